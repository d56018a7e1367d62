import Derived.Test.YtcafjhnjhhicdaaGreatDoorSK0
import Derived.Test.YtcafjhnjhhicdaaGreatDoorSBxA
namespace Go.Proofs.YtcafjhnjhhicdaaGreatDoor
open Go.BX
structure Mem where
 id:Int
 weight:Int
def memS:Shape Mem:=(Shape.pair (Shape.int .i64) (Shape.int .i64)).map fun x=>(x.id,x.weight)
theorem mem_open{S:Nat→Prop}{w:World}{cs:List Value}{x:Mem}(h:memS.rep S w cs x):cs=[.I x.id,.I x.weight]∧((-9223372036854775808)≤x.id∧x.id≤9223372036854775807)∧((-9223372036854775808)≤x.weight∧x.weight≤9223372036854775807):=by
 obtain⟨c0,d0,rfl,h0,h⟩:=h
 have h1:=h
 obtain⟨e0,b0⟩:=h0
 obtain⟨e1,b1⟩:=h1
 exact⟨(by simp[e0,e1]),b0,b1⟩
theorem mem_mk{S:Nat→Prop}{w:World}{y0:Int}{l0:List Value}(h0:(Shape.int .i64).rep S w l0 y0){y1:Int}{l1:List Value}(h1:(Shape.int .i64).rep S w l1 y1):memS.rep S w (l0++(l1)) ⟨y0,y1⟩:=⟨_,_,rfl,h0,h1⟩
theorem many_ok{S:Nat→Prop}{w:World}{a:Option Addr}{n c:Nat}(k:Nat)(hk:n=k):
 Calls Tryz.prog 37 #[.slice a n c,.I k] w (Ret fun v w'=>Ext w w'∧v=.nilIface):=by
 refine qS (fn:=Tryz.f37) (n:=10) (σ:=[(0,.slice a n c),(1,.I k)]) Tryz.func37 ?_
 have H:=Hp.startF (w:=w) (S:=S) (G:=[]) .nil
 refine qR 5 [.c [1,0,1],.c [2]] [(8,.bool (((n:Nat):Int)!=(k:Int)))] ?_
 refine qN ((n:Nat):Int) (k:Int) (fun h1=>?_) (fun h1=>?_)
 ·
  omega
 ·
  refine qR 3 [.c [3]] [(4,.nilIface)] ?_
  refine qT .nilIface Tryz.func37 ?_
  exact⟨_,rfl,H.done,rfl⟩
theorem refused_ok{S:Nat→Prop}{w:World}  :
 Calls Tryz.prog 42 #[.I 0] w (Ret fun v w'=>Ext w w'∧v=.nilIface):=by
 refine qS (fn:=Tryz.f42) (n:=7) (σ:=[(0,.I 0)]) Tryz.func42 ?_
 have H:=Hp.startF (w:=w) (S:=S) (G:=[]) .nil
 refine qR 8 [.c [1,0,1,0,1],.c [2]] [(2,.nilIface)] ?_
 refine qT .nilIface Tryz.func42 ?_
 exact⟨_,rfl,H.done,rfl⟩
theorem number_spec{S:Nat→Prop}{w:World}{n:Nat}(hn:n≤1000000)(hq:(Fz cQ).p S w):
 Calls Tryz.prog 67 #[.string (digB n)] w (Ret fun v w'=>Ext w w'∧v=.tuple #[.I n,.nilIface]):=by
 have hs6:(digB n).size≤7:=dig_len hn
 refine qS (fn:=Tryz.f67) (n:=30) (σ:=[(0,.string (digB n))]) Tryz.func67 ?_
 have H:=Hp.startF (w:=w) (S:=S) (G:=[Fz cQ]) (.cons hq .nil)
 refine qR 3 [.c [1,0],.c [2]] [(0,.string (digB n))] ?_
 refine qG (sq 0 7) ?_
 refine qP 1 (sq 1 7) [(0,.string (digB n)),(7,.string (digB n))] ?_
 refine qK .seq (some 8) (sq 2 7) 101 #[.string (digB n)] (atoi_c (n:=n) hn) ?_
 rintro _ w1 hE2 rfl
 have H:=H.ext hE2
 refine qF 5 [(0,.string (digB n)),(4,.I n),(5,.nilIface)] ?_
 refine qR 2 [.c [2,0,0],.c [2,0,1],.c [3]] [(0,.string (digB n)),(4,.I n),(5,.nilIface)] ?_
 refine qG (sq 0 17) ?_
 refine qP 8 (sq 8 17) [(0,.string (digB n)),(4,.I n),(18,.bool (decide (((((digB n).size:Nat):Int):Int)>9)))] ?_
 refine tD (fun b_=>[(0,.string (digB n)),(4,.I n),(18,.bool b_)]) (((((digB n).size:Nat):Int):Int)>9) (fun h3=>?_) (fun h3=>?_)
 ·
  omega
 ·
  refine qP 4 (sq 12 17) [(0,.string (digB n)),(4,.I n),(22,.bool (decide (((n:Int):Int)<0)))] ?_
  refine tD (fun b_=>[(0,.string (digB n)),(4,.I n),(22,.bool b_)]) (((n:Int):Int)<0) (fun h4=>?_) (fun h4=>?_)
  ·
   omega
  ·
   refine qP 1 (sq 13 17) [(0,.string (digB n)),(4,.I n),(22,.bool false),(23,.I n)] ?_
   refine qK .seq (some 24) (sq 14 17) 31 #[.I n] (itoa_c (n:=n) hn (Fz.of (H.fact 0 rfl))) ?_
   rintro _ w5 hE6 rfl
   have H:=H.ext hE6
   refine qF 3 [(4,.I n),(27,.bool (!((digB n).toList==(digB n).toList)))] ?_
   refine qC (!((digB n).toList==(digB n).toList)) (fun h7=>?_) (fun h7=>?_)
   ·
    replace h7:((digB n).toList==(digB n).toList)=false:=by revert h7;cases((digB n).toList==(digB n).toList)<;>simp
    replace h7:=ne_of_beq_false h7
    exact absurd rfl h7
   ·
    replace h7:((digB n).toList==(digB n).toList)=true:=by revert h7;cases((digB n).toList==(digB n).toList)<;>simp
    replace h7:=eq_of_beq h7
    refine qR 3 [.c [4]] [(2,.I n),(3,.nilIface)] ?_
    refine qT (.tuple #[.I n,.nilIface]) Tryz.func67 ?_
    exact⟨_,rfl,H.done,rfl⟩
def nums(ns:List Nat):List Int:=ns.map (fun(n:Nat)=>(n:Int))
theorem nums_len(ns:List Nat):(nums ns).length=ns.length:=by simp[nums]
theorem nums_succ{ns:List Nat}{i:Nat}(h:i<ns.length):(nums ns).take i++[((ns[i]:Nat):Int)]=(nums ns).take (i+1):=by
 unfold nums
 rw[List.take_succ_eq_append_getElem (by simpa using h)]
 simp
theorem numbers_spec{S:Nat→Prop}{w:World}{ns:List Nat}{a:Option Addr}{c:Nat}(h:(Shape.slice Shape.str).rep S w [.slice a (ns.map digB).length c] (ns.map digB))(hn:∀n∈ns,n≤1000000)(hnl:ns.length≤1000000)(hq:(Fz cQ).p S w):
 Calls Tryz.prog 38 #[.slice a (ns.map digB).length c] w (Ret fun v w'=>Ext w w'∧∃(a':Option Addr)(c':Nat),v=.tuple #[.slice a' (nums ns).length c',.nilIface]∧Hp w S [] [] [⟨Shape.int .i64,3,.slice a' (nums ns).length c',(nums ns)⟩] [] w'):=by
 have hlen:=Shape.slice_len h
 have hml:(ns.map digB).length=ns.length:=List.length_map ..
 refine qS (fn:=Tryz.f38) (n:=29) (σ:=[(0,.slice a (ns.map digB).length c)]) Tryz.func38 ?_
 have H:=Hp.startF (w:=w) (S:=S) (G:=[Rp (Shape.slice Shape.str) [.slice a (ns.map digB).length c] (ns.map digB),Fz cQ]) (.rp h (.cons hq .nil))
 refine qR 8 [.c [2,0,1,0],.b 0,.c [3]] [(4,.slice none 0 0),(9,.slice a (ns.map digB).length c),(10,.I (((ns.map digB).length:Nat):Int)),(11,.I 0)] ?_
 have H:=H.ownNil (Shape.int .i64) 3
 refine WK.loop (α:=Nat×Option Addr×Nat) (b:=cd Tryz.prog 38 [2,0,1,0,0]) (by as_aux_lemma=>kernel_rfl) (fun st_=>match st_ with|(i,ao,co)=>[(4,.slice ao (((nums ns).take i).length) co),(9,.slice a (ns.map digB).length c),(10,.I (((ns.map digB).length:Nat):Int)),(11,.I i)]) (fun st_ w'=>match st_ with|(i,ao,co)=>Hp w S [] [] [⟨Shape.int .i64,3,.slice ao (((nums ns).take i).length) co,((nums ns).take i)⟩] [Rp (Shape.slice Shape.str) [.slice a (ns.map digB).length c] (ns.map digB),Fz cQ] w'∧i≤ns.length) (fun st_=>match st_ with|(i,ao,co)=>ns.length-i) (0,none,0) ⟨H,Nat.zero_le _⟩ (rfl) ?_
 rintro⟨i,ao,co⟩w2⟨H,hinv0⟩hback1
 have hzl:((nums ns).take i).length=i:=by rw[List.length_take,nums_len];omega
 refine qR 3 [.c [2,0,1,0,0,1,0],.c [2,0,1,0,0,2],.l [2,0,1,0,0],.b 0,.c [3]] [(4,.slice ao (((nums ns).take i).length) co),(9,.slice a (ns.map digB).length c),(10,.I (((ns.map digB).length:Nat):Int)),(11,.I i),(12,.bool (decide (((i:Int):Int)<(((ns.map digB).length:Nat):Int))))] ?_
 refine qD (((i:Int):Int)<(((ns.map digB).length:Nat):Int)) (fun h3=>?_) (fun h3=>?_)
 ·
  have hbn:=hn (ns[i]) (List.getElem_mem (by omega))
  refine qR 4 [.c [2,0,1,0,0,2,0,0,0],.c [2,0,1,0,0,2,0,0,1],.b 1,.c [2,0,1,0,0,3],.l [2,0,1,0,0],.b 0,.c [3]] [(4,.slice ao (((nums ns).take i).length) co),(9,.slice a (ns.map digB).length c),(10,.I (((ns.map digB).length:Nat):Int)),(11,.I i)] ?_
  refine qG (sq 0 3) ?_
  have hx4:i<(ns.map digB).length:=by omega
  refine qX .seq 13 (sq 1 3) 22 9 (i:Int) Shape.str (digB ns[i]) H 0 rfl i (by omega) (by rw[List.getElem?_map,List.getElem?_eq_getElem (by omega)];rfl) ?_
  intro b5 o6 es7 hr8 H
  obtain⟨rfl,hshr8⟩:=hr8
  refine qL .seq 14 (sq 2 3) 9 b5 o6 0 (.string (digB ns[i])) (H.fc 0 rfl) ?_
  refine qF 1 [(4,.slice ao (((nums ns).take i).length) co),(6,.string (digB ns[i])),(9,.slice a (ns.map digB).length c),(10,.I (((ns.map digB).length:Nat):Int)),(11,.I i)] ?_
  refine qR 1 [.c [2,0,1,0,0,2,0,0,1,0],.c [2,0,1,0,0,2,0,0,2],.b 1,.c [2,0,1,0,0,3],.l [2,0,1,0,0],.b 0,.c [3]] [(4,.slice ao (((nums ns).take i).length) co),(6,.string (digB ns[i])),(9,.slice a (ns.map digB).length c),(10,.I (((ns.map digB).length:Nat):Int)),(11,.I i)] ?_
  refine qG (sq 0 7) ?_
  refine qP 1 (sq 1 7) [(4,.slice ao (((nums ns).take i).length) co),(9,.slice a (ns.map digB).length c),(10,.I (((ns.map digB).length:Nat):Int)),(11,.I i),(16,.string (digB ns[i]))] ?_
  refine qK .seq (some 17) (sq 2 7) 67 #[.string (digB ns[i])] (number_spec (S:=Av S w [] (idsOf [] [⟨Shape.int .i64,3,.slice ao (((nums ns).take i).length) co,((nums ns).take i)⟩])) (n:=ns[i]) (hn _ (List.getElem_mem _)) (H.fact 2 rfl)) ?_
  rintro _ w9 hE10 rfl
  have H:=H.ext hE10
  refine qF 5 [(4,.slice ao (((nums ns).take i).length) co),(7,.I (ns[i]:Int)),(8,.nilIface),(9,.slice a (ns.map digB).length c),(10,.I (((ns.map digB).length:Nat):Int)),(11,.I i)] ?_
  refine qR 5 [.c [2,0,1,0,0,2,0,0,3],.b 1,.c [2,0,1,0,0,3],.l [2,0,1,0,0],.b 0,.c [3]] [(4,.slice ao (((nums ns).take i).length) co),(7,.I (ns[i]:Int)),(9,.slice a (ns.map digB).length c),(10,.I (((ns.map digB).length:Nat):Int)),(11,.I i)] ?_
  refine qG (sq 0 5) ?_
  refine qP 2 (sq 2 5) [(4,.slice ao (((nums ns).take i).length) co),(9,.slice a (ns.map digB).length c),(10,.I (((ns.map digB).length:Nat):Int)),(11,.I i),(23,.slice ao (((nums ns).take i).length) co),(24,.I (ns[i]:Int))] ?_
  refine RW.new (κ:=.seq) (d:=some 25) (r:=(sq 3 5)) (o:=.cells #[.I (ns[i]:Int)] 3 (0,0)) (v:=fun b=>.slice (some ⟨b,0,none⟩) 1 1) (fun b=>by as_aux_lemma=>kernel_rfl) (nofun) H ?_
  intro b11 w12 H
  have H:=H.freeze 0 rfl (Shape.int .i64) ([(ns[i]:Int)]:List Int) 1 (by simp[maxLen]) (by first|exact Nat.le_refl _|simp) (EsP.cons (c:=[.I (ns[i]:Int)]) i64a EsP.nil)
  have H:Hp w S [] [] [⟨Shape.int .i64,3,.slice ao (((nums ns).take i).length) co,((nums ns).take i)⟩] [Rp (Shape.slice (Shape.int .i64)) [.slice (some ⟨b11,0,none⟩) 1 1] ([(ns[i]:Int)]:List Int),Fc b5 o6 [.string (digB ns[i])],Rp (Shape.slice Shape.str) [.slice a (ns.map digB).length c] (ns.map digB),Fz cQ] _:=H
  refine RW.appendW (d:=some 26) (r:=(sq 4 5)) (T:=69) (ty:=69) (e:=3) (m:=1) (by_:=8) (v:=.slice ao (((nums ns).take i).length) co) (a2:=(some ⟨b11,0,none⟩)) (l2:=1) (c2:=1) (zs:=((nums ns).take (i+1))) (by as_aux_lemma=>kernel_rfl) (by as_aux_lemma=>kernel_rfl) rfl H 0 rfl 0 rfl (nums_succ (by omega)) (by rw[List.length_take,nums_len];omega) ?_
  intro a13 c14 w16 H hc15
  have H:Hp w S [] [] [⟨Shape.int .i64,3,.slice a13 (((nums ns).take (i+1)).length) c14,((nums ns).take (i+1))⟩] [Rp (Shape.slice (Shape.int .i64)) [.slice (some ⟨b11,0,none⟩) 1 1] ([(ns[i]:Int)]:List Int),Fc b5 o6 [.string (digB ns[i])],Rp (Shape.slice Shape.str) [.slice a (ns.map digB).length c] (ns.map digB),Fz cQ] _:=H
  refine qF 1 [(4,.slice a13 (((nums ns).take (i+1)).length) c14),(9,.slice a (ns.map digB).length c),(10,.I (((ns.map digB).length:Nat):Int)),(11,.I i)] ?_
  refine qR 1 [.c [2,0,1,0,0,3],.l [2,0,1,0,0],.b 0,.c [3]] [(4,.slice a13 (((nums ns).take (i+1)).length) c14),(9,.slice a (ns.map digB).length c),(10,.I (((ns.map digB).length:Nat):Int)),(11,.I i)] ?_
  refine qG (sq 0 2) ?_
  refine qI .seq 27 (sq 1 2) ((i:Int)+1) ?_
  refine qF 1 [(4,.slice a13 (((nums ns).take (i+1)).length) c14),(9,.slice a (ns.map digB).length c),(10,.I (((ns.map digB).length:Nat):Int)),(11,.I ((i:Int)+1))] ?_
  have H:=H.pick [2,3] rfl
  exact WK.back (hback1 (i+1,a13,c14) _ ⟨H,by omega⟩ (by first|omega|(simp only[];omega))) (by as_aux_lemma=>kernel_rfl)
 ·
  refine qR 3 [.c [4]] [(2,.slice ao (((nums ns).take i).length) co),(3,.nilIface)] ?_
  refine qT (.tuple #[.slice ao (((nums ns).take i).length) co,.nilIface]) Tryz.func38 ?_
  have hie:i=ns.length:=by omega
  rw[hie,List.take_of_length_le (by rw[nums_len];exact Nat.le_refl _)]at H
  have H:=H.drop (M':=[]) (W':=[_]) (List.nil_sublist _) (List.Sublist.refl _)
  rw[hie,List.take_of_length_le (by rw[nums_len];exact Nat.le_refl _)]
  exact⟨_,rfl,H.done,_,_,rfl,H.pick [] rfl⟩
theorem exactly_spec{S:Nat→Prop}{w:World}{ns:List Nat}{a:Option Addr}{c:Nat}(k:Nat)(hk:(ns.map digB).length=k)(h:(Shape.slice Shape.str).rep S w [.slice a (ns.map digB).length c] (ns.map digB))(hn:∀n∈ns,n≤1000000)(hnl:ns.length≤1000000)(hq:(Fz cQ).p S w):
 Calls Tryz.prog 45 #[.slice a (ns.map digB).length c,.I k] w (Ret fun v w'=>Ext w w'∧∃(a':Option Addr)(c':Nat),v=.tuple #[.slice a' (nums ns).length c',.nilIface]∧Hp w S [] [] [⟨Shape.int .i64,3,.slice a' (nums ns).length c',(nums ns)⟩] [] w'):=by
 have hlen:=Shape.slice_len h
 refine qS (fn:=Tryz.f45) (n:=17) (σ:=[(0,.slice a (ns.map digB).length c),(1,.I k)]) Tryz.func45 ?_
 have H:=Hp.startF (w:=w) (S:=S) (G:=[Rp (Shape.slice Shape.str) [.slice a (ns.map digB).length c] (ns.map digB),Fz cQ]) (.rp h (.cons hq .nil))
 refine qR 4 [.c [1,0,0],.c [1,0,1],.c [2]] [(0,.slice a (ns.map digB).length c),(1,.I k)] ?_
 refine qG (sq 0 4) ?_
 refine qP 2 (sq 2 4) [(0,.slice a (ns.map digB).length c),(7,.slice a (ns.map digB).length c),(8,.I k)] ?_
 refine qK .seq (some 9) (sq 3 4) 37 #[.slice a (ns.map digB).length c,.I k] (many_ok (S:=fun _=>True) k hk) ?_
 rintro _ w1 hE2 rfl
 have H:=H.ext hE2
 refine qF 1 [(0,.slice a (ns.map digB).length c),(6,.nilIface)] ?_
 refine qR 5 [.c [2,0],.c [3]] [(0,.slice a (ns.map digB).length c)] ?_
 refine qG (sq 0 6) ?_
 refine qP 1 (sq 1 6) [(13,.slice a (ns.map digB).length c)] ?_
 refine qK .seq (some 14) (sq 2 6) 38 #[.slice a (ns.map digB).length c] (numbers_spec (S:=Av S w [] (idsOf [] [])) (ns:=ns) (H.rp 0 rfl) hn hnl (H.fact 1 rfl)) ?_
 rintro _ w3-⟨a4,c5,rfl,H'⟩
 have H:=H.back (M1:=[]) (W1:=[]) H'
 have H:Hp w S [] [] [⟨Shape.int .i64,3,.slice a4 (nums ns).length c5,(nums ns)⟩] [Rp (Shape.slice Shape.str) [.slice a (ns.map digB).length c] (ns.map digB),Fz cQ] _:=H
 refine qF 4 [(4,.slice a4 (nums ns).length c5),(5,.nilIface)] ?_
 refine qT (.tuple #[.slice a4 (nums ns).length c5,.nilIface]) Tryz.func45 ?_
 exact⟨_,rfl,H.done,_,_,rfl,H.pick [] rfl⟩
theorem words_spec{S:Nat→Prop}{w:World}{s:ByteArray}(hs9:s.size<4294967281)(hq:(Fz cQ).p S w):
 Calls Tryz.prog 10 #[.string s] w (Ret fun v w'=>Ext w w'∧Hp w S [] [] [⟨Shape.str,9,v,wordsB s⟩] [] w'):=by
 have hpl:=pieces_le s
 refine qS (fn:=Tryz.f10) (n:=21) (σ:=[(0,.string s)]) Tryz.func10 ?_
 have H:=Hp.startF (w:=w) (S:=S) (G:=[Fz cQ]) (.cons hq .nil)
 refine qR 6 [.c [2,0,0],.c [2,0,1],.c [3]] [(0,.string s),(3,.slice none 0 0)] ?_
 refine qG (sq 0 4) ?_
 refine qP 1 (sq 1 4) [(3,.slice none 0 0),(6,.string s)] ?_
 refine qK .seq (some 7) (sq 2 4) 14 #[.string s,.string (⟨#[32]⟩:ByteArray)] (split_c (S:=Av S w [] (idsOf [] [])) (s:=s) hs9 (Fz.of (H.fact 0 rfl))) ?_
 rintro _ w1-⟨b2,rfl,H'⟩
 have H:=H.back (M1:=[]) (W1:=[]) H'
 have H:Hp w S [] [] [⟨Shape.str,9,.slice (some ⟨b2,0,none⟩) (pieces s).length (pieces s).length,(pieces s)⟩] [Fz cQ] _:=H
 have H:Hp w S [] [] [] [Rp (Shape.slice Shape.str) [.slice (some ⟨b2,0,none⟩) (pieces s).length (pieces s).length] (pieces s),Fz cQ] _:=H.freezeW 0 rfl
 refine qF 2 [(3,.slice none 0 0),(7,.slice (some ⟨b2,0,none⟩) (pieces s).length (pieces s).length),(8,.I (((pieces s).length:Nat):Int)),(9,.I 0)] ?_
 refine qR 1 [.c [2,0,1,0],.b 0,.c [3]] [(3,.slice none 0 0),(7,.slice (some ⟨b2,0,none⟩) (pieces s).length (pieces s).length),(8,.I (((pieces s).length:Nat):Int)),(9,.I 0)] ?_
 have H:=H.ownNil Shape.str 9
 refine WK.loop (α:=Nat×Option Addr×Nat) (b:=cd Tryz.prog 10 [2,0,1,0,0]) (by as_aux_lemma=>kernel_rfl) (fun st_=>match st_ with|(i,ao,co)=>[(3,.slice ao ((((pieces s).take i).filter full).length) co),(7,.slice (some ⟨b2,0,none⟩) (pieces s).length (pieces s).length),(8,.I (((pieces s).length:Nat):Int)),(9,.I i)]) (fun st_ w'=>match st_ with|(i,ao,co)=>Hp w S [] [] [⟨Shape.str,9,.slice ao ((((pieces s).take i).filter full).length) co,((pieces s).take i).filter full⟩] [Rp (Shape.slice Shape.str) [.slice (some ⟨b2,0,none⟩) (pieces s).length (pieces s).length] (pieces s),Fz cQ] w'∧i≤(pieces s).length) (fun st_=>match st_ with|(i,ao,co)=>(pieces s).length-i) (0,none,0) ⟨H,Nat.zero_le _⟩ (rfl) ?_
 rintro⟨i,ao,co⟩w4⟨H,hinv0⟩hback3
 refine qR 3 [.c [2,0,1,0,0,1,0],.c [2,0,1,0,0,2],.l [2,0,1,0,0],.b 0,.c [3]] [(3,.slice ao ((((pieces s).take i).filter full).length) co),(7,.slice (some ⟨b2,0,none⟩) (pieces s).length (pieces s).length),(8,.I (((pieces s).length:Nat):Int)),(9,.I i),(10,.bool (decide (((i:Int):Int)<(((pieces s).length:Nat):Int))))] ?_
 refine qD (((i:Int):Int)<(((pieces s).length:Nat):Int)) (fun h5=>?_) (fun h5=>?_)
 ·
  refine qR 4 [.c [2,0,1,0,0,2,0,0,0],.c [2,0,1,0,0,2,0,0,1],.b 1,.c [2,0,1,0,0,3],.l [2,0,1,0,0],.b 0,.c [3]] [(3,.slice ao ((((pieces s).take i).filter full).length) co),(7,.slice (some ⟨b2,0,none⟩) (pieces s).length (pieces s).length),(8,.I (((pieces s).length:Nat):Int)),(9,.I i)] ?_
  refine qG (sq 0 3) ?_
  have hx6:i<(pieces s).length:=by omega
  refine qX .seq 11 (sq 1 3) 22 9 (i:Int) Shape.str ((pieces s)[i]) H 0 rfl i (by omega) (List.getElem?_eq_getElem hx6) ?_
  intro b7 o8 es9 hr10 H
  obtain⟨rfl,hshr10⟩:=hr10
  refine qL .seq 12 (sq 2 3) 9 b7 o8 0 (.string ((pieces s)[i])) (H.fc 0 rfl) ?_
  refine qF 1 [(3,.slice ao ((((pieces s).take i).filter full).length) co),(5,.string ((pieces s)[i])),(7,.slice (some ⟨b2,0,none⟩) (pieces s).length (pieces s).length),(8,.I (((pieces s).length:Nat):Int)),(9,.I i)] ?_
  refine qR 2 [.c [2,0,1,0,0,2,0,0,2],.b 1,.c [2,0,1,0,0,3],.l [2,0,1,0,0],.b 0,.c [3]] [(3,.slice ao ((((pieces s).take i).filter full).length) co),(5,.string ((pieces s)[i])),(7,.slice (some ⟨b2,0,none⟩) (pieces s).length (pieces s).length),(8,.I (((pieces s).length:Nat):Int)),(9,.I i),(14,.bool (!(((pieces s)[i]).toList==(⟨#[]⟩:ByteArray).toList)))] ?_
  refine qC (!(((pieces s)[i]).toList==(⟨#[]⟩:ByteArray).toList)) (fun h11=>?_) (fun h11=>?_)
  ·
   replace h11:(((pieces s)[i]).toList==(⟨#[]⟩:ByteArray).toList)=false:=by revert h11;cases(((pieces s)[i]).toList==(⟨#[]⟩:ByteArray).toList)<;>simp
   replace h11:=ne_of_beq_false h11
   refine qG (sq 0 5) ?_
   refine qP 2 (sq 2 5) [(3,.slice ao ((((pieces s).take i).filter full).length) co),(7,.slice (some ⟨b2,0,none⟩) (pieces s).length (pieces s).length),(8,.I (((pieces s).length:Nat):Int)),(9,.I i),(15,.slice ao ((((pieces s).take i).filter full).length) co),(16,.string ((pieces s)[i]))] ?_
   refine RW.new (κ:=.seq) (d:=some 17) (r:=(sq 3 5)) (o:=.cells #[.string ((pieces s)[i])] 9 (0,0)) (v:=fun b=>.slice (some ⟨b,0,none⟩) 1 1) (fun b=>by as_aux_lemma=>kernel_rfl) (nofun) H ?_
   intro b12 w13 H
   have H:=H.freeze 0 rfl Shape.str ([(pieces s)[i]]:List ByteArray) 1 (by simp[maxLen]) (by first|exact Nat.le_refl _|simp) (EsP.cons (c:=[.string ((pieces s)[i])]) ⟨rfl,hshr10⟩ EsP.nil)
   have H:Hp w S [] [] [⟨Shape.str,9,.slice ao ((((pieces s).take i).filter full).length) co,((pieces s).take i).filter full⟩] [Rp (Shape.slice Shape.str) [.slice (some ⟨b12,0,none⟩) 1 1] ([(pieces s)[i]]:List ByteArray),Fc b7 o8 [.string ((pieces s)[i])],Rp (Shape.slice Shape.str) [.slice (some ⟨b2,0,none⟩) (pieces s).length (pieces s).length] (pieces s),Fz cQ] _:=H
   refine RW.appendW (d:=some 18) (r:=(sq 4 5)) (T:=22) (ty:=22) (e:=9) (m:=1) (by_:=16) (v:=.slice ao ((((pieces s).take i).filter full).length) co) (a2:=(some ⟨b12,0,none⟩)) (l2:=1) (c2:=1) (zs:=((pieces s).take (i+1)).filter full) (by as_aux_lemma=>kernel_rfl) (by as_aux_lemma=>kernel_rfl) rfl H 0 rfl 0 rfl (words_yes (by omega) (by assumption)) (words_by (by omega) hs9) ?_
   intro a14 c15 w17 H hc16
   have H:Hp w S [] [] [⟨Shape.str,9,.slice a14 ((((pieces s).take (i+1)).filter full).length) c15,((pieces s).take (i+1)).filter full⟩] [Rp (Shape.slice Shape.str) [.slice (some ⟨b12,0,none⟩) 1 1] ([(pieces s)[i]]:List ByteArray),Fc b7 o8 [.string ((pieces s)[i])],Rp (Shape.slice Shape.str) [.slice (some ⟨b2,0,none⟩) (pieces s).length (pieces s).length] (pieces s),Fz cQ] _:=H
   refine qF 1 [(3,.slice a14 ((((pieces s).take (i+1)).filter full).length) c15),(7,.slice (some ⟨b2,0,none⟩) (pieces s).length (pieces s).length),(8,.I (((pieces s).length:Nat):Int)),(9,.I i)] ?_
   refine qR 1 [.c [2,0,1,0,0,3],.l [2,0,1,0,0],.b 0,.c [3]] [(3,.slice a14 ((((pieces s).take (i+1)).filter full).length) c15),(7,.slice (some ⟨b2,0,none⟩) (pieces s).length (pieces s).length),(8,.I (((pieces s).length:Nat):Int)),(9,.I i)] ?_
   refine qG (sq 0 2) ?_
   refine qI .seq 19 (sq 1 2) ((i:Int)+1) ?_
   refine qF 1 [(3,.slice a14 ((((pieces s).take (i+1)).filter full).length) c15),(7,.slice (some ⟨b2,0,none⟩) (pieces s).length (pieces s).length),(8,.I (((pieces s).length:Nat):Int)),(9,.I ((i:Int)+1))] ?_
   have H:=H.pick [2,3] rfl
   exact WK.back (hback3 (i+1,a14,c15) _ ⟨H,by omega⟩ (by first|omega|(simp only[];omega))) (by first|(dsimp only;rw[words_no (by omega) (by assumption)];kernel_rfl)|kernel_rfl)
  ·
   replace h11:(((pieces s)[i]).toList==(⟨#[]⟩:ByteArray).toList)=true:=by revert h11;cases(((pieces s)[i]).toList==(⟨#[]⟩:ByteArray).toList)<;>simp
   replace h11:=eq_of_beq h11
   refine qR 2 [.c [2,0,1,0,0,3],.l [2,0,1,0,0],.b 0,.c [3]] [(3,.slice ao ((((pieces s).take i).filter full).length) co),(7,.slice (some ⟨b2,0,none⟩) (pieces s).length (pieces s).length),(8,.I (((pieces s).length:Nat):Int)),(9,.I i)] ?_
   refine qG (sq 0 2) ?_
   refine qI .seq 19 (sq 1 2) ((i:Int)+1) ?_
   refine qF 1 [(3,.slice ao ((((pieces s).take i).filter full).length) co),(7,.slice (some ⟨b2,0,none⟩) (pieces s).length (pieces s).length),(8,.I (((pieces s).length:Nat):Int)),(9,.I ((i:Int)+1))] ?_
   rw[←words_no (s:=s) (i:=i) (by omega) (by assumption)]at H
   have H:=H.pick [1,2] rfl
   exact WK.back (hback3 (i+1,ao,co) _ ⟨H,by omega⟩ (by first|omega|(simp only[];omega))) (by first|(dsimp only;rw[words_no (by omega) (by assumption)];kernel_rfl)|kernel_rfl)
 ·
  refine qR 3 [.c [4]] [(2,.slice ao ((((pieces s).take i).filter full).length) co)] ?_
  refine qT (.slice ao ((((pieces s).take i).filter full).length) co) Tryz.func10 ?_
  have hie:i=(pieces s).length:=by omega
  rw[hie,List.take_of_length_le (Nat.le_refl _)]at H
  have H:=H.drop (M':=[]) (W':=[_]) (List.nil_sublist _) (by repeat(first|exact List.Sublist.refl _|exact List.nil_sublist _|apply List.Sublist.cons_cons|apply List.Sublist.cons))
  rw[hie,List.take_of_length_le (Nat.le_refl _)]
  exact⟨_,rfl,H.done,H.pick [] rfl⟩
end Go.Proofs.YtcafjhnjhhicdaaGreatDoor
