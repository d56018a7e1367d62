import Derived.Test.YtcafjhnjhhicdaaGreatDoorSP3
namespace Go.Proofs.YtcafjhnjhhicdaaGreatDoor
open Go.BX
theorem pcclone_nil{S:Nat→Prop}{w:World}{xs:List Pc}{c:Nat}(h:(Shape.slice pcS).rep S w [.slice none xs.length c] xs)(hby:xs.length*32≤140737488355328):
 Calls Tryz.prog 168 #[.slice none xs.length c] w (Ret fun v w'=>Ext w w'∧Hp w S [] [] [⟨pcS,82,v,xs⟩] [] w'):=by
 have hx:=Shape.slice_none h
 refine qS (fn:=Tryz.f168) (n:=8) (σ:=[(0,.slice none xs.length c)]) Tryz.func168 ?_
 have H:=Hp.startF (w:=w) (S:=S) (G:=[Rp (Shape.slice pcS) [.slice none xs.length c] xs]) (.rp h .nil)
 refine qR 8 [.c [1,0,1,0,1],.c [2]] [(2,.slice none 0 0)] ?_
 refine qT (.slice none 0 0) Tryz.func168 ?_
 subst hx
 exact⟨_,rfl,H.done,(H.pick [] rfl).ownNil pcS 82⟩
theorem pcclone_some{S:Nat→Prop}{w:World}{xs:List Pc}{a:Addr}{c:Nat}(h:(Shape.slice pcS).rep S w [.slice (some a) xs.length c] xs)(hby:xs.length*32≤140737488355328):
 Calls Tryz.prog 168 #[.slice (some a) xs.length c] w (Ret fun v w'=>Ext w w'∧Hp w S [] [] [⟨pcS,82,v,xs⟩] [] w'):=by
 refine qS (fn:=Tryz.f168) (n:=8) (σ:=[(0,.slice (some a) xs.length c)]) Tryz.func168 ?_
 have H:=Hp.startF (w:=w) (S:=S) (G:=[Rp (Shape.slice pcS) [.slice (some a) xs.length c] xs]) (.rp h .nil)
 refine qR 8 [.c [2,0],.c [3]] [(0,.slice (some a) xs.length c)] ?_
 refine qG (sq 0 4) ?_
 refine RW.new (κ:=.seq) (d:=some 5) (r:=(sq 1 4)) (o:=.cells #[] 82 (0,0)) (v:=fun b=>.slice (some ⟨b,0,none⟩) 0 0) (fun b=>by as_aux_lemma=>kernel_rfl) (nofun) H ?_
 intro b1 w2 H
 refine qP 1 (sq 2 4) [(5,.slice (some ⟨b1,0,none⟩) 0 0),(6,.slice (some a) xs.length c)] ?_
 have H:=H.toOwn (sh:=pcS) (xs:=[]) (cap:=0) (by rfl) (Nat.le_refl _) (Nat.zero_le _) (by simp) EsP.nil
 have H:Hp w S [] [] [⟨pcS,82,.slice (some ⟨b1,0,none⟩) 0 0,[]⟩] [Rp (Shape.slice pcS) [.slice (some a) xs.length c] xs] _:=H
 refine RW.appendW (d:=some 7) (r:=(sq 3 4)) (T:=80) (ty:=80) (e:=82) (m:=2) (by_:=32) (v:=.slice (some ⟨b1,0,none⟩) 0 0) (a2:=(some a)) (l2:=xs.length) (c2:=c) (zs:=xs) (by as_aux_lemma=>kernel_rfl) (by as_aux_lemma=>kernel_rfl) rfl H 0 rfl 0 rfl (rfl) (by omega) ?_
 intro a3 c4 w6 H hc5
 have H:Hp w S [] [] [⟨pcS,82,.slice a3 xs.length c4,xs⟩] [Rp (Shape.slice pcS) [.slice (some a) xs.length c] xs] _:=H
 refine qF 1 [(2,.slice a3 xs.length c4)] ?_
 refine qT (.slice a3 xs.length c4) Tryz.func168 ?_
 exact⟨_,rfl,H.done,H.pick [] rfl⟩
theorem pcclone_spec{S:Nat→Prop}{w:World}{xs:List Pc}{a:Option Addr}{c:Nat}(h:(Shape.slice pcS).rep S w [.slice a xs.length c] xs)(hby:xs.length*32≤140737488355328):
 Calls Tryz.prog 168 #[.slice a xs.length c] w (Ret fun v w'=>Ext w w'∧Hp w S [] [] [⟨pcS,82,v,xs⟩] [] w'):=by
 cases a with
 |none=>exact pcclone_nil h hby
 |some a=>exact pcclone_some h hby
structure PsOk(ps:List Pc)(n l:Nat):Prop where
 nd:(ps.map Pc.index).Nodup
 rng:∀p∈ps,0≤p.index∧p.index<(n:Int)
 len:∀p∈ps,p.data.length=l
theorem PsOk.le{ps:List Pc}{n l:Nat}(h:PsOk ps n l):ps.length≤n:=by
 have hsub:(ps.map fun p=>p.index.toNat)⊆ List.range n:=fun x hx=>by
  obtain⟨p,hp,rfl⟩:=List.mem_map.1 hx
  have:=h.rng p hp
  exact List.mem_range.2 (by omega)
 have hnd:(ps.map fun p=>p.index.toNat).Nodup:=by
  have h1:=h.nd
  rw[List.Nodup,List.pairwise_map]at h1⊢
  refine h1.imp_of_mem fun{a b}ha hb hab=>?_
  have:=h.rng a ha
  have:=h.rng b hb
  omega
 have hn2:((List.range n).filter fun x=>decide (x∈ps.map fun p=>p.index.toNat)).Nodup:=List.filter_sublist.nodup List.nodup_range
 have hp:=(List.perm_ext_iff_of_nodup hnd hn2).2 fun x=>by
  rw[List.mem_filter,decide_eq_true_iff]
  exact⟨fun h=>⟨hsub h,h⟩,fun h=>h.2⟩
 have h1:=hp.length_eq
 have h2:=List.length_filter_le (fun x=>decide (x∈ps.map fun p=>p.index.toNat)) (List.range n)
 rw[List.length_map]at h1
 rw[List.length_range]at h2
 omega
theorem PsOk.fresh{ps:List Pc}{n l i:Nat}(h:PsOk ps n l)(hi:i<ps.length):¬(ps[i]).index∈(ps.take i).map Pc.index:=fun hm=>by
 have hnd:=h.nd
 obtain⟨q,hq,he⟩:=List.mem_map.1 hm
 obtain⟨j,hj,rfl⟩:=List.mem_iff_getElem.1 hq
 rw[List.length_take]at hj
 rw[List.getElem_take]at he
 have:=(List.getElem_inj (h₀:=by rw[List.length_map];omega) (h₁:=by rw[List.length_map];exact hi) hnd (i:=j) (j:=i)).1 (by rw[List.getElem_map,List.getElem_map];exact he)
 omega
theorem chosen_ok{S:Nat→Prop}{w:World}{ps:List Pc}{a:Option Addr}{c:Nat}(h:(Shape.slice pcS).rep S w [.slice a ps.length c] ps){size k n:Nat}(hs:size≤65536)(hk:1≤k)(hkn:k≤n)(hn:n≤255)(hok:PsOk ps n (lenOf size k))(hlen:k≤ps.length):
 Calls Tryz.prog 111 #[.slice a ps.length c,.I size,.I k,.I n] w (Ret fun v w'=>Ext w w'∧∃(a:Option Addr)(c:Nat)(ys:List Pc),v=.tuple #[.slice a (ys.take k).length c,.I ((lenOf size k:Nat):Int),.I 0]∧ys.Perm ps∧ys.Pairwise (fun x y=>x.index≤y.index)∧(Shape.slice pcS).rep (Nw S w) w' [.slice a (ys.take k).length c] (ys.take k)):=by
 have hpl:=Shape.slice_len h
 have hple:=hok.le
 refine qS (fn:=Tryz.f111) (n:=75) (σ:=[(0,.slice a ps.length c),(1,.I size),(2,.I k),(3,.I n)]) Tryz.func111 ?_
 have H:=Hp.startF (w:=w) (S:=S) (G:=[Rp (Shape.slice pcS) [.slice a ps.length c] ps]) (.rp h .nil)
 refine qR 3 [.c [1,0],.c [2]] [(0,.slice a ps.length c),(1,.I size),(2,.I k),(3,.I n)] ?_
 refine qG (sq 0 9) ?_
 refine qP 3 (sq 3 9) [(0,.slice a ps.length c),(2,.I k),(3,.I n),(20,.I size),(21,.I k),(22,.I n)] ?_
 refine qK .seq (some 23) (sq 4 9) 69 #[.I size,.I k,.I n] (sizes_ok (S:=fun _=>True) size k n (by omega) (by omega) (by omega) (by omega)) ?_
 rintro _ w1 hE2 rfl
 have H:=H.ext hE2
 refine qF 5 [(0,.slice a ps.length c),(2,.I k),(3,.I n),(11,.I ((lenOf size k:Nat):Int)),(12,.I 0)] ?_
 refine qR 6 [.c [3,0],.c [4]] [(0,.slice a ps.length c),(2,.I k),(3,.I n),(11,.I ((lenOf size k:Nat):Int))] ?_
 refine qG (sq 0 2) ?_
 refine RW.new (κ:=.seq) (d:=some 29) (r:=(sq 1 2)) (o:=mapO (Value.int .i64) (Value.int .i64) ([]:List (Int×Int×Nat)) 0) (v:=fun b_=>.map (some b_)) (fun _=>by as_aux_lemma=>kernel_rfl) (nofun) H ?_
 intro b3 w4 H
 refine qF 1 [(0,.slice a ps.length c),(2,.I k),(3,.I n),(11,.I ((lenOf size k:Nat):Int)),(13,.map (some b3))] ?_
 refine qR 4 [.c [4,0,1,0],.b 0,.c [5]] [(0,.slice a ps.length c),(2,.I k),(3,.I n),(11,.I ((lenOf size k:Nat):Int)),(13,.map (some b3)),(30,.slice a ps.length c),(31,.I ((ps.length:Nat):Int)),(32,.I 0)] ?_
 refine WK.loop (α:=Nat×List (Int×Int×Nat)×Nat) (b:=cd Tryz.prog 111 [4,0,1,0,0]) (by as_aux_lemma=>kernel_rfl) (fun st_=>match st_ with|(i,L,cl)=>[(0,.slice a ps.length c),(2,.I k),(3,.I n),(11,.I ((lenOf size k:Nat):Int)),(13,.map (some b3)),(30,.slice a ps.length c),(31,.I ((ps.length:Nat):Int)),(32,.I i)]) (fun st_ w'=>match st_ with|(i,L,cl)=>Hp w S [] [(b3,mapO (Value.int .i64) (Value.int .i64) L cl)] [] [Rp (Shape.slice pcS) [.slice a ps.length c] ps] w'∧i≤ps.length∧L.map (·.1)=(ps.take i).map Pc.index) (fun st_=>match st_ with|(i,L,cl)=>ps.length-i) (0,([]:List (Int×Int×Nat)),0) ⟨H,Nat.zero_le _,rfl⟩ (rfl) ?_
 rintro⟨i,L,cl⟩w6⟨H,hinv0⟩hback5
 refine qR 3 [.c [4,0,1,0,0,1,0],.c [4,0,1,0,0,2],.l [4,0,1,0,0],.b 0,.c [5]] [(0,.slice a ps.length c),(2,.I k),(3,.I n),(11,.I ((lenOf size k:Nat):Int)),(13,.map (some b3)),(30,.slice a ps.length c),(31,.I ((ps.length:Nat):Int)),(32,.I i),(33,.bool (decide (((i:Int):Int)<((ps.length:Nat):Int))))] ?_
 refine qD (((i:Int):Int)<((ps.length:Nat):Int)) (fun h7=>?_) (fun h7=>?_)
 ·
  have hpi:ps[i]∈ps:=List.getElem_mem (by omega)
  have hri:=hok.rng _ hpi
  have hli:=hok.len _ hpi
  have hfi:mfind (ps[i]).index L=none:=mfind_none.2 (by rw[hinv0.2];exact PsOk.fresh hok (by omega))
  have hfs:(mfind (ps[i]).index L).isSome=false:=by rw[hfi];rfl
  refine qR 4 [.c [4,0,1,0,0,2,0,0,0],.c [4,0,1,0,0,2,0,0,1],.b 1,.c [4,0,1,0,0,3],.l [4,0,1,0,0],.b 0,.c [5]] [(0,.slice a ps.length c),(2,.I k),(3,.I n),(11,.I ((lenOf size k:Nat):Int)),(13,.map (some b3)),(30,.slice a ps.length c),(31,.I ((ps.length:Nat):Int)),(32,.I i)] ?_
  refine qG (sq 0 4) ?_
  have hx8:i<ps.length:=by omega
  refine qX .seq 34 (sq 1 4) 80 82 (i:Int) pcS (ps[i]) H 0 rfl i (by omega) (List.getElem?_eq_getElem hx8) ?_
  intro b9 o10 es11 hr12 H
  obtain⟨a1q13,k1q13,rfl,hf14,hf15⟩:=pc_open hr12
  have H:=H.add (F:=Rp SB [.slice a1q13 ((ps[i]).data.length) k1q13] ((ps[i]).data)) hf15
  refine qL .seq 35 (sq 2 4) 82 b9 o10 0 (.agg #[.I ((ps[i]).index),.slice a1q13 ((ps[i]).data.length) k1q13]) (H.fc 1 rfl) ?_
  refine qB .seq 15 (sq 3 4) #[.I 0,.slice none 0 0] 82 H ?_
  intro b16 w17 H
  refine qW 82 b16 0 (sq 4 4) (.agg #[.I ((ps[i]).index),.slice a1q13 ((ps[i]).data.length) k1q13]) [(b16,.cells #[.I ((ps[i]).index),.slice a1q13 ((ps[i]).data.length) k1q13] 82 (0,0)),(b3,mapO (Value.int .i64) (Value.int .i64) L cl)] H 0 rfl rfl ?_
  intro w18 H
  refine qF 0 [(0,.slice a ps.length c),(2,.I k),(3,.I n),(11,.I ((lenOf size k:Nat):Int)),(13,.map (some b3)),(15,.P b16 0),(30,.slice a ps.length c),(31,.I ((ps.length:Nat):Int)),(32,.I i)] ?_
  refine qR 2 [.c [4,0,1,0,0,2,0,0,1,0,0],.c [4,0,1,0,0,2,0,0,1,0,1],.c [4,0,1,0,0,2,0,0,2],.b 1,.c [4,0,1,0,0,3],.l [4,0,1,0,0],.b 0,.c [5]] [(0,.slice a ps.length c),(2,.I k),(3,.I n),(11,.I ((lenOf size k:Nat):Int)),(13,.map (some b3)),(15,.P b16 0),(30,.slice a ps.length c),(31,.I ((ps.length:Nat):Int)),(32,.I i)] ?_
  refine qG (sq 0 9) ?_
  refine qP 2 (sq 2 9) [(0,.slice a ps.length c),(2,.I k),(3,.I n),(11,.I ((lenOf size k:Nat):Int)),(13,.map (some b3)),(15,.P b16 0),(30,.slice a ps.length c),(31,.I ((ps.length:Nat):Int)),(32,.I i),(37,.map (some b3)),(38,.P b16 0)] ?_
  refine qL .seq 39 (sq 3 9) 3 b16 0 0 (.I ((ps[i]).index)) (H.cells 0 rfl) ?_
  refine RW.mapGet (κ:=.seq) (d:=some 40) (r:=(sq 4 9)) (T:=163) (mk:=(Value.int .i64)) (vk:=(Value.int .i64)) (Kt:=3) (E:=3) (z:=0) ((ps[i]).index) true (by as_aux_lemma=>kernel_rfl) H 1 rfl (KeyOk.int (by as_aux_lemma=>kernel_rfl)) (by as_aux_lemma=>kernel_rfl) (fun w_=>zeroE_run (by as_aux_lemma=>kernel_rfl) w_) ?_
  refine qF 5 [(0,.slice a ps.length c),(2,.I k),(3,.I n),(11,.I ((lenOf size k:Nat):Int)),(13,.map (some b3)),(15,.P b16 0),(17,.bool ((mfind ((ps[i]).index) L).isSome)),(30,.slice a ps.length c),(31,.I ((ps.length:Nat):Int)),(32,.I i)] ?_
  refine qR 1 [.c [4,0,1,0,0,2,0,0,1,0,1,0],.c [4,0,1,0,0,2,0,0,1,0,2],.c [4,0,1,0,0,2,0,0,2],.b 1,.c [4,0,1,0,0,3],.l [4,0,1,0,0],.b 0,.c [5]] [(0,.slice a ps.length c),(2,.I k),(3,.I n),(11,.I ((lenOf size k:Nat):Int)),(13,.map (some b3)),(15,.P b16 0),(17,.bool ((mfind ((ps[i]).index) L).isSome)),(30,.slice a ps.length c),(31,.I ((ps.length:Nat):Int)),(32,.I i)] ?_
  refine qG (sq 0 16) ?_
  refine qP 2 (sq 2 16) [(0,.slice a ps.length c),(2,.I k),(3,.I n),(11,.I ((lenOf size k:Nat):Int)),(13,.map (some b3)),(15,.P b16 0),(30,.slice a ps.length c),(31,.I ((ps.length:Nat):Int)),(32,.I i),(44,.bool ((mfind ((ps[i]).index) L).isSome))] ?_
  refine RW.test (fun b_=>[(0,.slice a ps.length c),(2,.I k),(3,.I n),(11,.I ((lenOf size k:Nat):Int)),(13,.map (some b3)),(15,.P b16 0),(30,.slice a ps.length c),(31,.I ((ps.length:Nat):Int)),(32,.I i),(44,.bool b_)]) ((mfind ((ps[i]).index) L).isSome) (fun h19=>?_) (fun h19=>?_)
  ·
   rw[hfs]at h19;cases h19
  ·
   refine qP 1 (sq 3 16) [(0,.slice a ps.length c),(2,.I k),(3,.I n),(11,.I ((lenOf size k:Nat):Int)),(13,.map (some b3)),(15,.P b16 0),(30,.slice a ps.length c),(31,.I ((ps.length:Nat):Int)),(32,.I i),(44,.bool false),(45,.P b16 0)] ?_
   refine qL .seq 46 (sq 4 16) 3 b16 0 0 (.I ((ps[i]).index)) (H.cells 0 rfl) ?_
   refine qP 1 (sq 5 16) [(0,.slice a ps.length c),(2,.I k),(3,.I n),(11,.I ((lenOf size k:Nat):Int)),(13,.map (some b3)),(15,.P b16 0),(30,.slice a ps.length c),(31,.I ((ps.length:Nat):Int)),(32,.I i),(44,.bool false),(46,.I ((ps[i]).index)),(47,.I n)] ?_
   refine qI .seq 48 (sq 6 16) ((n:Int)-1) ?_
   refine qK .seq (some 49) (sq 7 16) 104 #[.I ((ps[i]).index),.I 0,.I ((n:Int)-1)] (between_spec (S:=fun _=>True) ((ps[i]).index) 0 ((n:Int)-1)) ?_
   rintro _ w20 hE21 rfl
   have H:=H.ext hE21
   refine qP 3 (sq 10 16) [(0,.slice a ps.length c),(2,.I k),(3,.I n),(11,.I ((lenOf size k:Nat):Int)),(13,.map (some b3)),(15,.P b16 0),(30,.slice a ps.length c),(31,.I ((ps.length:Nat):Int)),(32,.I i),(52,.bool (!(decide (0≤(ps[i]).index∧(ps[i]).index≤(n:Int)-1))))] ?_
   refine RW.test (fun b_=>[(0,.slice a ps.length c),(2,.I k),(3,.I n),(11,.I ((lenOf size k:Nat):Int)),(13,.map (some b3)),(15,.P b16 0),(30,.slice a ps.length c),(31,.I ((ps.length:Nat):Int)),(32,.I i),(52,.bool b_)]) (!(decide (0≤(ps[i]).index∧(ps[i]).index≤(n:Int)-1))) (fun h22=>?_) (fun h22=>?_)
   ·
    replace h22:(decide (0≤(ps[i]).index∧(ps[i]).index≤(n:Int)-1))=false:=by revert h22;cases(decide (0≤(ps[i]).index∧(ps[i]).index≤(n:Int)-1))<;>simp
    replace h22:=of_decide_eq_false h22
    omega
   ·
    replace h22:(decide (0≤(ps[i]).index∧(ps[i]).index≤(n:Int)-1))=true:=by revert h22;cases(decide (0≤(ps[i]).index∧(ps[i]).index≤(n:Int)-1))<;>simp
    replace h22:=of_decide_eq_true h22
    refine qP 1 (sq 11 16) [(0,.slice a ps.length c),(2,.I k),(3,.I n),(11,.I ((lenOf size k:Nat):Int)),(13,.map (some b3)),(15,.P b16 0),(30,.slice a ps.length c),(31,.I ((ps.length:Nat):Int)),(32,.I i),(52,.bool false),(53,.P b16 1)] ?_
    refine qL .seq 54 (sq 12 16) 28 b16 1 1 (.slice a1q13 ((ps[i]).data.length) k1q13) (H.cells 0 rfl) ?_
    refine qF 4 [(0,.slice a ps.length c),(2,.I k),(3,.I n),(11,.I ((lenOf size k:Nat):Int)),(13,.map (some b3)),(15,.P b16 0),(30,.slice a ps.length c),(31,.I ((ps.length:Nat):Int)),(32,.I i),(58,.bool ((((ps[i]).data.length:Nat):Int)!=((lenOf size k:Nat):Int)))] ?_
    refine qN (((ps[i]).data.length:Nat):Int) ((lenOf size k:Nat):Int) (fun h23=>?_) (fun h23=>?_)
    ·
     omega
    ·
     refine qR 1 [.c [4,0,1,0,0,2,0,0,2],.b 1,.c [4,0,1,0,0,3],.l [4,0,1,0,0],.b 0,.c [5]] [(0,.slice a ps.length c),(2,.I k),(3,.I n),(11,.I ((lenOf size k:Nat):Int)),(13,.map (some b3)),(15,.P b16 0),(30,.slice a ps.length c),(31,.I ((ps.length:Nat):Int)),(32,.I i)] ?_
     refine qG (sq 0 4) ?_
     refine qP 2 (sq 2 4) [(0,.slice a ps.length c),(2,.I k),(3,.I n),(11,.I ((lenOf size k:Nat):Int)),(13,.map (some b3)),(30,.slice a ps.length c),(31,.I ((ps.length:Nat):Int)),(32,.I i),(59,.map (some b3)),(60,.P b16 0)] ?_
     refine qL .seq 61 (sq 3 4) 3 b16 0 0 (.I ((ps[i]).index)) (H.cells 0 rfl) ?_
     refine RW.mapSet (d:=none) (r:=(sq 4 4)) (T:=163) (mk:=(Value.int .i64)) (vk:=(Value.int .i64)) (Kt:=3) (E:=3) (M':=[(b16,.cells #[.I ((ps[i]).index),.slice a1q13 ((ps[i]).data.length) k1q13] 82 (0,0)),(b3,mapO (Value.int .i64) (Value.int .i64) (mset ((ps[i]).index) 1 cl L) (mclk ((ps[i]).index) cl L))]) ((ps[i]).index) 1 (by as_aux_lemma=>kernel_rfl) H 1 rfl (KeyOk.int (by as_aux_lemma=>kernel_rfl)) (by as_aux_lemma=>kernel_rfl) rfl ?_
     intro w24 hCw24 H
     refine qF 0 [(0,.slice a ps.length c),(2,.I k),(3,.I n),(11,.I ((lenOf size k:Nat):Int)),(13,.map (some b3)),(30,.slice a ps.length c),(31,.I ((ps.length:Nat):Int)),(32,.I i)] ?_
     refine qR 1 [.c [4,0,1,0,0,3],.l [4,0,1,0,0],.b 0,.c [5]] [(0,.slice a ps.length c),(2,.I k),(3,.I n),(11,.I ((lenOf size k:Nat):Int)),(13,.map (some b3)),(30,.slice a ps.length c),(31,.I ((ps.length:Nat):Int)),(32,.I i)] ?_
     refine qG (sq 0 2) ?_
     refine qI .seq 62 (sq 1 2) ((i:Int)+1) ?_
     refine qF 1 [(0,.slice a ps.length c),(2,.I k),(3,.I n),(11,.I ((lenOf size k:Nat):Int)),(13,.map (some b3)),(30,.slice a ps.length c),(31,.I ((ps.length:Nat):Int)),(32,.I ((i:Int)+1))] ?_
     have H:=H.pick [2] rfl
     have H:=H.frontM 1 (M':=[(b3,mapO (Value.int .i64) (Value.int .i64) (mset ((ps[i]).index) 1 cl L) (mclk ((ps[i]).index) cl L)),(b16,.cells #[.I ((ps[i]).index),.slice a1q13 ((ps[i]).data.length) k1q13] 82 (0,0))]) rfl
     have H:=H.dropM 1
     exact WK.back (hback5 (i+1,mset ((ps[i]).index) 1 cl L,mclk ((ps[i]).index) cl L) _ ⟨H,by omega,by rw[mset_keys,if_neg (by rw[hinv0.2];exact PsOk.fresh hok (by omega)),hinv0.2,List.take_succ_eq_append_getElem (by omega),List.map_append];rfl⟩ (by simp only[];omega)) (by as_aux_lemma=>kernel_rfl)
 ·
  refine qR 4 [.c [5,0,1],.c [6]] [(0,.slice a ps.length c),(2,.I k),(11,.I ((lenOf size k:Nat):Int)),(66,.bool (decide ((((ps.length:Nat):Int):Int)<(k:Int))))] ?_
  refine qD ((((ps.length:Nat):Int):Int)<(k:Int)) (fun h25=>?_) (fun h25=>?_)
  ·
   omega
  ·
   refine qR 2 [.c [6,0],.c [7]] [(0,.slice a ps.length c),(2,.I k),(11,.I ((lenOf size k:Nat):Int))] ?_
   refine qG (sq 0 3) ?_
   refine qP 1 (sq 1 3) [(2,.I k),(11,.I ((lenOf size k:Nat):Int)),(67,.slice a ps.length c)] ?_
   refine qK .seq (some 68) (sq 2 3) 168 #[.slice a ps.length c] (pcclone_spec (H.rp 0 rfl) (by omega)) ?_
   rintro v27 w26-H'
   have H:=H.back (M1:=[]) (W1:=[]) H'
   obtain⟨a28,c29,rfl,hc30,hm31⟩:=H.ownForm 0 rfl
   have H:Hp w S [] [(b3,mapO (Value.int .i64) (Value.int .i64) L cl)] [⟨pcS,82,.slice a28 ps.length c29,ps⟩] [Rp (Shape.slice pcS) [.slice a ps.length c] ps] _:=H
   refine qF 1 [(2,.I k),(11,.I ((lenOf size k:Nat):Int)),(18,.slice a28 ps.length c29)] ?_
   refine qR 1 [.c [7,0],.c [8]] [(2,.I k),(11,.I ((lenOf size k:Nat):Int)),(18,.slice a28 ps.length c29)] ?_
   refine qG (sq 0 2) ?_
   refine qP 1 (sq 1 2) [(2,.I k),(11,.I ((lenOf size k:Nat):Int)),(18,.slice a28 ps.length c29),(69,.slice a28 ps.length c29)] ?_
   obtain⟨pb,hpb⟩:=H.ownLit (by omega) rfl
   subst hpb
   refine RW.callS (d:=some 70) (r:=(sq 2 2)) (g:=169) (args:=#[.slice (some ⟨pb,0,none⟩) ps.length c29,.func (.func 170) #[] #[]]) (by as_aux_lemma=>kernel_rfl) (sort_pc ((H.lend (M1:=[]) (W1:=[⟨pcS,82,.slice (some ⟨pb,0,none⟩) ps.length c29,ps⟩])).pick [] rfl) (by omega) (by omega)) ?_
   rintro _ w32⟨rfl,ys,hys,hord,H'⟩
   have H:=H.back (M1:=[]) (W1:=[⟨pcS,82,.slice (some ⟨pb,0,none⟩) ps.length c29,ps⟩]) H'
   have hyl:=hys.length_eq
   have H:=H.reW (ys:=ys) (v':=.slice (some ⟨pb,0,none⟩) ys.length c29) rfl (by rw[hyl])
   rw[show(Value.slice (some ⟨pb,0,none⟩) ps.length c29)=.slice (some ⟨pb,0,none⟩) ys.length c29 by rw[hyl]]
   have H:Hp w S [] [(b3,mapO (Value.int .i64) (Value.int .i64) L cl)] [⟨pcS,82,.slice (some ⟨pb,0,none⟩) ys.length c29,ys⟩] [Rp (Shape.slice pcS) [.slice a ps.length c] ps] _:=H
   refine qF 0 [(2,.I k),(11,.I ((lenOf size k:Nat):Int)),(18,.slice (some ⟨pb,0,none⟩) ys.length c29)] ?_
   refine qR 1 [.c [8,0],.c [9]] [(2,.I k),(11,.I ((lenOf size k:Nat):Int)),(18,.slice (some ⟨pb,0,none⟩) ys.length c29)] ?_
   refine qG (sq 0 7) ?_
   refine qP 2 (sq 2 7) [(11,.I ((lenOf size k:Nat):Int)),(71,.slice (some ⟨pb,0,none⟩) ys.length c29),(72,.I k)] ?_
   have H:Hp w S [] [(b3,mapO (Value.int .i64) (Value.int .i64) L cl)] [] [Rp (Shape.slice pcS) [.slice (some ⟨pb,0,none⟩) ys.length c29] ys,Rp (Shape.slice pcS) [.slice a ps.length c] ps] _:=H.freezeW 0 rfl
   refine RW.slice (κ:=.seq) (d:=some 73) (r:=(sq 3 7)) (T:=80) (e:=82) (sh:=pcS) (a:=(some ⟨pb,0,none⟩)) (len:=ys.length) (cap:=c29) (zs:=(ys.take k)) (lv:=none) (hv:=(some (.I k))) (by as_aux_lemma=>kernel_rfl) (by as_aux_lemma=>kernel_rfl) H 0 rfl 0 k .nil (.mk (by omega)) (by omega) (by omega) (by rw[List.drop_zero]) ?_
   intro a33 H
   refine qF 4 [(8,.slice a33 (ys.take k).length c29),(9,.I ((lenOf size k:Nat):Int)),(10,.I 0)] ?_
   refine qT (.tuple #[.slice a33 (ys.take k).length c29,.I ((lenOf size k:Nat):Int),.I 0]) Tryz.func111 ?_
   exact⟨_,rfl,H.done,_,_,ys,rfl,hys,hord,H.out (H.rp 0 rfl)⟩
def subM(ys:List Pc)(k n:Nat):List (List (BitVec 8)):=pickL (gen k n) ((ys.take k).map Pc.index)
def invM(ys:List Pc)(k n:Nat):List (List (BitVec 8)):=(redTo (subM ys k n) (ident k) k).2.2
def datL(ys:List Pc)(k n l:Nat):List (List (BitVec 8)):=(invM ys k n).map fun r=>mixAll r ((ys.take k).map Pc.data) (List.replicate l 0#8)
theorem gen_all(k n:Nat):∀x∈gen k n,x.length=k:=fun x hx=>by
 obtain⟨i,_,rfl⟩:=List.mem_map.1 hx
 exact genRow_len k i
theorem subM_len{ys:List Pc}{k n:Nat}(h:k≤ys.length):(subM ys k n).length=k:=by
 unfold subM
 rw[pickL_len,List.length_map,List.length_take]
 omega
theorem pickL_all{m:List (List (BitVec 8))}{rows:List Int}{c:Nat}(h:∀x∈m,x.length=c)(hr:∀x∈rows,0≤x∧x<(m.length:Int)):∀x∈pickL m rows,x.length=c:=fun x hx=>by
 obtain⟨r,hr2,rfl⟩:=List.mem_map.1 hx
 have:=hr r hr2
 exact rowAt_len h (by omega)
structure RedOk(s:Nat×List (List (BitVec 8))×List (List (BitVec 8)))(r d:Nat):Prop where
 l1:s.2.1.length=r
 l2:s.2.2.length=r
 le:s.1≤r
 c2:∀x∈s.2.2,x.length=d
theorem redTo_ok{L R:List (List (BitVec 8))}{r d:Nat}(hL:L.length=r)(hR:R.length=r)(hc:∀x∈R,x.length=d):∀m,RedOk (redTo L R m) r d
 |0=>⟨hL,hR,Nat.zero_le _,hc⟩
 |m+1=>by
  have ih:=redTo_ok hL hR hc m
  rw[redTo_succ]
  generalize redTo L R m=s at ih
  obtain⟨dn,A,B⟩:=s
  cases hf:firstP A m dn with
  |none=>rw[redStep_miss hf];exact ih
  |some i=>
   rw[redStep_hit hf]
   have hi:i<A.length∧dn≤i:=by
    unfold firstP at hf
    have h1:=List.mem_range.1 (List.mem_of_find?_eq_some hf)
    have h2:=List.find?_some hf
    exact⟨h1,(of_decide_eq_true h2).1⟩
   have h1:A.length=r:=ih.l1
   have h2:B.length=r:=ih.l2
   exact⟨by show(clearL _ _ _).length=r;rw[clearL_len,swapL_len];exact h1,by show(clearR _ _ _ _).length=r;rw[clearR_len,swapL_len];exact h2,by show dn+1≤r;omega,
    clearR_all (swapL_all ih.c2 (by omega) (by omega)) (by rw[swapL_len];omega)⟩
theorem invM_len{ys:List Pc}{k n:Nat}(h:k≤ys.length):(invM ys k n).length=k:=(redTo_ok (subM_len h) (ident_len k) (ident_all k) k).l2
theorem invM_all{ys:List Pc}{k n:Nat}(h:k≤ys.length):∀x∈invM ys k n,x.length=k:=(redTo_ok (subM_len h) (ident_len k) (ident_all k) k).c2
theorem datL_len{ys:List Pc}{k n l:Nat}(h:k≤ys.length):(datL ys k n l).length=k:=by
 unfold datL
 rw[List.length_map,invM_len h]
theorem datL_all{ys:List Pc}{k n l:Nat}(hd:∀p∈ys,p.data.length=l):∀x∈datL ys k n l,x.length=l:=fun x hx=>by
 obtain⟨r,_,rfl⟩:=List.mem_map.1 hx
 exact mixAll_len (List.length_replicate ..) fun d hd2=>by
  obtain⟨p,hp,rfl⟩:=List.mem_map.1 hd2
  exact hd p (List.mem_of_mem_take hp)
theorem datL_take{ys:List Pc}{k n l i:Nat}(hk:k≤ys.length)(h:i<(invM ys k n).length):(datL ys k n l).take i++[mixAll (invM ys k n)[i] ((ys.take k).map Pc.data) (List.replicate l 0#8)]=(datL ys k n l).take (i+1):=by
 rw[List.take_succ_eq_append_getElem (by rw[datL_len hk,←invM_len (n:=n) hk];exact h)]
 simp[datL]
theorem map_take_snoc{α:Type}(f:Pc→α){l:List Pc}{i:Nat}(h:i<l.length):(l.take i).map f++[f l[i]]=(l.take (i+1)).map f:=by
 rw[List.take_succ_eq_append_getElem h,List.map_append]
 rfl
theorem data_ok{S:Nat→Prop}{w:World}{ps:List Pc}{a:Option Addr}{c:Nat}(h:(Shape.slice pcS).rep S w [.slice a ps.length c] ps){size k n:Nat}(hs:size≤65536)(hk:1≤k)(hkn:k≤n)(hn:n≤255)(hok:PsOk ps n (lenOf size k))(hlen:k≤ps.length)(hreg:∀ys:List Pc,ys.Perm ps→ys.Pairwise (fun x y=>x.index≤y.index)→(redTo (subM ys k n) (ident k) k).1=k):
 Calls Tryz.prog 75 #[.slice a ps.length c,.I size,.I k,.I n] w (Ret fun v w'=>Ext w w'∧∃(a:Option Addr)(c:Nat)(ys:List Pc),v=.tuple #[.slice a (datL ys k n (lenOf size k)).length c,.I ((lenOf size k:Nat):Int),.I 0]∧ys.Perm ps∧ys.Pairwise (fun x y=>x.index≤y.index)∧(Shape.slice SB).rep (Nw S w) w' [.slice a (datL ys k n (lenOf size k)).length c] (datL ys k n (lenOf size k))):=by
 refine qS (fn:=Tryz.f75) (n:=89) (σ:=[(0,.slice a ps.length c),(1,.I size),(2,.I k),(3,.I n)]) Tryz.func75 ?_
 have H:=Hp.startF (w:=w) (S:=S) (G:=[Rp (Shape.slice pcS) [.slice a ps.length c] ps]) (.rp h .nil)
 refine qR 3 [.c [1,0],.c [2]] [(0,.slice a ps.length c),(1,.I size),(2,.I k),(3,.I n)] ?_
 refine qG (sq 0 12) ?_
 refine qP 4 (sq 4 12) [(2,.I k),(3,.I n),(28,.slice a ps.length c),(29,.I size),(30,.I k),(31,.I n)] ?_
 refine qK .seq (some 32) (sq 5 12) 111 #[.slice a ps.length c,.I size,.I k,.I n] (chosen_ok (S:=Av S w [] (idsOf [] [])) (ps:=ps) (H.rp 0 rfl) (size:=size) (k:=k) (n:=n) hs hk hkn hn hok hlen) ?_
 rintro _ w1 hE4⟨a2,c3,ys,rfl,hys,hord,hr5⟩
 obtain⟨qs,hqs⟩:∃z,z=ys.take k:=⟨_,rfl⟩
 rw[←hqs]at hr5⊢
 have H:=H.addN hE4 (F:=Rp (Shape.slice pcS) [.slice a2 qs.length c3] qs) hr5
 have hyl:=hys.length_eq
 have hql:qs.length=k:=by rw[hqs,List.length_take];omega
 have hqd:∀p∈qs,p.data.length=lenOf size k:=fun p hp=>hok.len p (hys.mem_iff.1 (List.mem_of_mem_take (hqs▸hp)))
 have hqr:∀p∈qs,0≤p.index∧p.index<(n:Int):=fun p hp=>hok.rng p (hys.mem_iff.1 (List.mem_of_mem_take (hqs▸hp)))
 refine qF 7 [(2,.I k),(3,.I n),(11,.slice a2 qs.length c3),(12,.I ((lenOf size k:Nat):Int)),(13,.I 0)] ?_
 refine qR 13 [.c [5,0,1,0],.b 0,.c [6]] [(2,.I k),(3,.I n),(12,.I ((lenOf size k:Nat):Int)),(14,.slice none 0 0),(15,.slice none 0 0),(39,.slice a2 qs.length c3),(40,.I ((qs.length:Nat):Int)),(41,.I 0)] ?_
 have H:=(H.ownNil SB 28).ownNil (Shape.int .i64) 3
 have H:Hp w S [] [] [⟨Shape.int .i64,3,.slice none ((([]:List Pc).map Pc.index).length) 0,([]:List Pc).map Pc.index⟩,⟨SB,28,.slice none ((([]:List Pc).map Pc.data).length) 0,([]:List Pc).map Pc.data⟩] [Rp (Shape.slice pcS) [.slice a2 qs.length c3] qs,Rp (Shape.slice pcS) [.slice a ps.length c] ps] w1:=H
 have H:=H.pick [0] rfl
 have H:=H.drop (M':=[]) (W':=[⟨Shape.int .i64,3,.slice none (((qs.take 0).map Pc.index).length) 0,(qs.take 0).map Pc.index⟩,⟨SB,28,.slice none (((qs.take 0).map Pc.data).length) 0,(qs.take 0).map Pc.data⟩]) (by repeat(first|exact List.Sublist.refl _|exact List.nil_sublist _|apply List.Sublist.cons_cons|apply List.Sublist.cons)) (by repeat(first|exact List.Sublist.refl _|exact List.nil_sublist _|apply List.Sublist.cons_cons|apply List.Sublist.cons))
 refine WK.loop (α:=Nat×Option Addr×Nat×Option Addr×Nat) (b:=cd Tryz.prog 75 [5,0,1,0,0]) (by as_aux_lemma=>kernel_rfl) (fun st_=>match st_ with|(i,ra,rc,va,vc)=>[(2,.I k),(3,.I n),(12,.I ((lenOf size k:Nat):Int)),(14,.slice ra (((qs.take i).map Pc.index).length) rc),(15,.slice va (((qs.take i).map Pc.data).length) vc),(39,.slice a2 qs.length c3),(40,.I ((qs.length:Nat):Int)),(41,.I i)]) (fun st_ w'=>match st_ with|(i,ra,rc,va,vc)=>Hp w S [] [] [⟨Shape.int .i64,3,.slice ra (((qs.take i).map Pc.index).length) rc,(qs.take i).map Pc.index⟩,⟨SB,28,.slice va (((qs.take i).map Pc.data).length) vc,(qs.take i).map Pc.data⟩] [Rp (Shape.slice pcS) [.slice a2 qs.length c3] qs] w'∧i≤qs.length) (fun st_=>match st_ with|(i,ra,rc,va,vc)=>qs.length-i) (0,none,0,none,0) ⟨H,Nat.zero_le _⟩ (rfl) ?_
 rintro⟨i,ra,rc,va,vc⟩w7⟨H,hinv0⟩hback6
 refine qR 3 [.c [5,0,1,0,0,1,0],.c [5,0,1,0,0,2],.l [5,0,1,0,0],.b 0,.c [6]] [(2,.I k),(3,.I n),(12,.I ((lenOf size k:Nat):Int)),(14,.slice ra (((qs.take i).map Pc.index).length) rc),(15,.slice va (((qs.take i).map Pc.data).length) vc),(39,.slice a2 qs.length c3),(40,.I ((qs.length:Nat):Int)),(41,.I i),(42,.bool (decide (((i:Int):Int)<((qs.length:Nat):Int))))] ?_
 refine qD (((i:Int):Int)<((qs.length:Nat):Int)) (fun h8=>?_) (fun h8=>?_)
 ·
  refine qR 4 [.c [5,0,1,0,0,2,0,0,0],.c [5,0,1,0,0,2,0,0,1],.b 1,.c [5,0,1,0,0,3],.l [5,0,1,0,0],.b 0,.c [6]] [(2,.I k),(3,.I n),(12,.I ((lenOf size k:Nat):Int)),(14,.slice ra (((qs.take i).map Pc.index).length) rc),(15,.slice va (((qs.take i).map Pc.data).length) vc),(39,.slice a2 qs.length c3),(40,.I ((qs.length:Nat):Int)),(41,.I i)] ?_
  refine qG (sq 0 4) ?_
  have hx9:i<qs.length:=by omega
  refine qX .seq 43 (sq 1 4) 80 82 (i:Int) pcS (qs[i]) H 0 rfl i (by omega) (List.getElem?_eq_getElem hx9) ?_
  intro b10 o11 es12 hr13 H
  obtain⟨a1q14,k1q14,rfl,hf15,hf16⟩:=pc_open hr13
  have H:=H.add (F:=Rp SB [.slice a1q14 ((qs[i]).data.length) k1q14] ((qs[i]).data)) hf16
  refine qL .seq 44 (sq 2 4) 82 b10 o11 0 (.agg #[.I ((qs[i]).index),.slice a1q14 ((qs[i]).data.length) k1q14]) (H.fc 1 rfl) ?_
  refine qB .seq 17 (sq 3 4) #[.I 0,.slice none 0 0] 82 H ?_
  intro b17 w18 H
  refine qW 82 b17 0 (sq 4 4) (.agg #[.I ((qs[i]).index),.slice a1q14 ((qs[i]).data.length) k1q14]) [(b17,.cells #[.I ((qs[i]).index),.slice a1q14 ((qs[i]).data.length) k1q14] 82 (0,0))] H 0 rfl rfl ?_
  intro w19 H
  refine qF 0 [(2,.I k),(3,.I n),(12,.I ((lenOf size k:Nat):Int)),(14,.slice ra (((qs.take i).map Pc.index).length) rc),(15,.slice va (((qs.take i).map Pc.data).length) vc),(17,.P b17 0),(39,.slice a2 qs.length c3),(40,.I ((qs.length:Nat):Int)),(41,.I i)] ?_
  refine qR 1 [.c [5,0,1,0,0,2,0,0,1,0],.c [5,0,1,0,0,2,0,0,2],.b 1,.c [5,0,1,0,0,3],.l [5,0,1,0,0],.b 0,.c [6]] [(2,.I k),(3,.I n),(12,.I ((lenOf size k:Nat):Int)),(14,.slice ra (((qs.take i).map Pc.index).length) rc),(15,.slice va (((qs.take i).map Pc.data).length) vc),(17,.P b17 0),(39,.slice a2 qs.length c3),(40,.I ((qs.length:Nat):Int)),(41,.I i)] ?_
  refine qG (sq 0 6) ?_
  refine qP 2 (sq 2 6) [(2,.I k),(3,.I n),(12,.I ((lenOf size k:Nat):Int)),(14,.slice ra (((qs.take i).map Pc.index).length) rc),(15,.slice va (((qs.take i).map Pc.data).length) vc),(17,.P b17 0),(39,.slice a2 qs.length c3),(40,.I ((qs.length:Nat):Int)),(41,.I i),(45,.slice ra (((qs.take i).map Pc.index).length) rc),(46,.P b17 0)] ?_
  refine qL .seq 47 (sq 3 6) 3 b17 0 0 (.I ((qs[i]).index)) (H.cells 0 rfl) ?_
  refine RW.new (κ:=.seq) (d:=some 48) (r:=(sq 4 6)) (o:=.cells #[.I ((qs[i]).index)] 3 (0,0)) (v:=fun b=>.slice (some ⟨b,0,none⟩) 1 1) (fun b=>by as_aux_lemma=>kernel_rfl) (nofun) H ?_
  intro b20 w21 H
  have H:=H.freeze 0 rfl (Shape.int .i64) ([(qs[i]).index]:List Int) 1 (by simp[maxLen]) (by first|exact Nat.le_refl _|simp) (EsP.cons (c:=[.I ((qs[i]).index)]) i64a EsP.nil)
  have H:Hp w S [] [(b17,.cells #[.I ((qs[i]).index),.slice a1q14 ((qs[i]).data.length) k1q14] 82 (0,0))] [⟨Shape.int .i64,3,.slice ra (((qs.take i).map Pc.index).length) rc,(qs.take i).map Pc.index⟩,⟨SB,28,.slice va (((qs.take i).map Pc.data).length) vc,(qs.take i).map Pc.data⟩] [Rp (Shape.slice (Shape.int .i64)) [.slice (some ⟨b20,0,none⟩) 1 1] ([(qs[i]).index]:List Int),Rp SB [.slice a1q14 ((qs[i]).data.length) k1q14] ((qs[i]).data),Fc b10 o11 [.I ((qs[i]).index),.slice a1q14 ((qs[i]).data.length) k1q14],Rp (Shape.slice pcS) [.slice a2 qs.length c3] qs] _:=H
  refine RW.appendW (d:=some 49) (r:=(sq 5 6)) (T:=69) (ty:=69) (e:=3) (m:=1) (by_:=8) (v:=.slice ra (((qs.take i).map Pc.index).length) rc) (a2:=(some ⟨b20,0,none⟩)) (l2:=1) (c2:=1) (zs:=(qs.take (i+1)).map Pc.index) (by as_aux_lemma=>kernel_rfl) (by as_aux_lemma=>kernel_rfl) rfl H 0 rfl 0 rfl (map_take_snoc _ (by omega)) (by rw[List.length_map,List.length_take];omega) ?_
  intro a22 c23 w25 H hc24
  have H:Hp w S [] [(b17,.cells #[.I ((qs[i]).index),.slice a1q14 ((qs[i]).data.length) k1q14] 82 (0,0))] [⟨Shape.int .i64,3,.slice a22 (((qs.take (i+1)).map Pc.index).length) c23,(qs.take (i+1)).map Pc.index⟩,⟨SB,28,.slice va (((qs.take i).map Pc.data).length) vc,(qs.take i).map Pc.data⟩] [Rp (Shape.slice (Shape.int .i64)) [.slice (some ⟨b20,0,none⟩) 1 1] ([(qs[i]).index]:List Int),Rp SB [.slice a1q14 ((qs[i]).data.length) k1q14] ((qs[i]).data),Fc b10 o11 [.I ((qs[i]).index),.slice a1q14 ((qs[i]).data.length) k1q14],Rp (Shape.slice pcS) [.slice a2 qs.length c3] qs] _:=H
  refine qF 1 [(2,.I k),(3,.I n),(12,.I ((lenOf size k:Nat):Int)),(14,.slice a22 (((qs.take (i+1)).map Pc.index).length) c23),(15,.slice va (((qs.take i).map Pc.data).length) vc),(17,.P b17 0),(39,.slice a2 qs.length c3),(40,.I ((qs.length:Nat):Int)),(41,.I i)] ?_
  refine qG (sq 0 6) ?_
  refine qP 2 (sq 2 6) [(2,.I k),(3,.I n),(12,.I ((lenOf size k:Nat):Int)),(14,.slice a22 (((qs.take (i+1)).map Pc.index).length) c23),(15,.slice va (((qs.take i).map Pc.data).length) vc),(39,.slice a2 qs.length c3),(40,.I ((qs.length:Nat):Int)),(41,.I i),(50,.slice va (((qs.take i).map Pc.data).length) vc),(51,.P b17 1)] ?_
  refine qL .seq 52 (sq 3 6) 28 b17 1 1 (.slice a1q14 ((qs[i]).data.length) k1q14) (H.cells 0 rfl) ?_
  refine RW.new (κ:=.seq) (d:=some 53) (r:=(sq 4 6)) (o:=.cells #[.slice a1q14 ((qs[i]).data.length) k1q14] 28 (0,0)) (v:=fun b=>.slice (some ⟨b,0,none⟩) 1 1) (fun b=>by as_aux_lemma=>kernel_rfl) (nofun) H ?_
  intro b26 w27 H
  have H:=H.freeze 0 rfl SB ([(qs[i]).data]:List (List (BitVec 8))) 1 (by simp[maxLen]) (by first|exact Nat.le_refl _|simp) (EsP.cons (c:=[.slice a1q14 ((qs[i]).data.length) k1q14]) (H.rp 1 rfl) EsP.nil)
  have H:Hp w S [] [(b17,.cells #[.I ((qs[i]).index),.slice a1q14 ((qs[i]).data.length) k1q14] 82 (0,0))] [⟨Shape.int .i64,3,.slice a22 (((qs.take (i+1)).map Pc.index).length) c23,(qs.take (i+1)).map Pc.index⟩,⟨SB,28,.slice va (((qs.take i).map Pc.data).length) vc,(qs.take i).map Pc.data⟩] [Rp (Shape.slice SB) [.slice (some ⟨b26,0,none⟩) 1 1] ([(qs[i]).data]:List (List (BitVec 8))),Rp (Shape.slice (Shape.int .i64)) [.slice (some ⟨b20,0,none⟩) 1 1] ([(qs[i]).index]:List Int),Rp SB [.slice a1q14 ((qs[i]).data.length) k1q14] ((qs[i]).data),Fc b10 o11 [.I ((qs[i]).index),.slice a1q14 ((qs[i]).data.length) k1q14],Rp (Shape.slice pcS) [.slice a2 qs.length c3] qs] _:=H
  refine RW.appendW (d:=some 54) (r:=(sq 5 6)) (T:=74) (ty:=74) (e:=28) (m:=1) (by_:=24) (v:=.slice va (((qs.take i).map Pc.data).length) vc) (a2:=(some ⟨b26,0,none⟩)) (l2:=1) (c2:=1) (zs:=(qs.take (i+1)).map Pc.data) (by as_aux_lemma=>kernel_rfl) (by as_aux_lemma=>kernel_rfl) rfl H 1 rfl 0 rfl (map_take_snoc _ (by omega)) (by rw[List.length_map,List.length_take];omega) ?_
  intro a28 c29 w31 H hc30
  have H:Hp w S [] [(b17,.cells #[.I ((qs[i]).index),.slice a1q14 ((qs[i]).data.length) k1q14] 82 (0,0))] [⟨Shape.int .i64,3,.slice a22 (((qs.take (i+1)).map Pc.index).length) c23,(qs.take (i+1)).map Pc.index⟩,⟨SB,28,.slice a28 (((qs.take (i+1)).map Pc.data).length) c29,(qs.take (i+1)).map Pc.data⟩] [Rp (Shape.slice SB) [.slice (some ⟨b26,0,none⟩) 1 1] ([(qs[i]).data]:List (List (BitVec 8))),Rp (Shape.slice (Shape.int .i64)) [.slice (some ⟨b20,0,none⟩) 1 1] ([(qs[i]).index]:List Int),Rp SB [.slice a1q14 ((qs[i]).data.length) k1q14] ((qs[i]).data),Fc b10 o11 [.I ((qs[i]).index),.slice a1q14 ((qs[i]).data.length) k1q14],Rp (Shape.slice pcS) [.slice a2 qs.length c3] qs] _:=H
  refine qF 1 [(2,.I k),(3,.I n),(12,.I ((lenOf size k:Nat):Int)),(14,.slice a22 (((qs.take (i+1)).map Pc.index).length) c23),(15,.slice a28 (((qs.take (i+1)).map Pc.data).length) c29),(39,.slice a2 qs.length c3),(40,.I ((qs.length:Nat):Int)),(41,.I i)] ?_
  refine qR 1 [.c [5,0,1,0,0,3],.l [5,0,1,0,0],.b 0,.c [6]] [(2,.I k),(3,.I n),(12,.I ((lenOf size k:Nat):Int)),(14,.slice a22 (((qs.take (i+1)).map Pc.index).length) c23),(15,.slice a28 (((qs.take (i+1)).map Pc.data).length) c29),(39,.slice a2 qs.length c3),(40,.I ((qs.length:Nat):Int)),(41,.I i)] ?_
  refine qG (sq 0 2) ?_
  refine qI .seq 55 (sq 1 2) ((i:Int)+1) ?_
  refine qF 1 [(2,.I k),(3,.I n),(12,.I ((lenOf size k:Nat):Int)),(14,.slice a22 (((qs.take (i+1)).map Pc.index).length) c23),(15,.slice a28 (((qs.take (i+1)).map Pc.data).length) c29),(39,.slice a2 qs.length c3),(40,.I ((qs.length:Nat):Int)),(41,.I ((i:Int)+1))] ?_
  have H:=H.pick [4] rfl
  have H:=H.dropM 0
  exact WK.back (hback6 (i+1,a22,c23,a28,c29) _ ⟨H,by omega⟩ (by first|omega|(simp only[];omega))) (by as_aux_lemma=>kernel_rfl)
 ·
  have hie:i=qs.length:=by omega
  rw[hie,List.take_length]at H⊢
  have hgl:=gen_len k n
  have hga:=gen_all k n
  have hsub:pickL (gen k n) (qs.map Pc.index)=subM ys k n:=by rw[hqs];rfl
  have hrows:∀x∈qs.map Pc.index,0≤x∧x<((gen k n).length:Int):=fun x hx=>by
   obtain⟨p,hp,rfl⟩:=List.mem_map.1 hx
   rw[hgl]
   exact hqr p hp
  have hrl:(qs.map Pc.index).length=k:=by rw[List.length_map];exact hql
  have hvl:(qs.map Pc.data).length=k:=by rw[List.length_map];exact hql
  have hrg:=hreg ys hys hord
  have hsl:=subM_len (n:=n) (show k≤ys.length by omega)
  have hsa:∀x∈subM ys k n,x.length=k:=hsub▸pickL_all hga hrows
  have hil:=invM_len (n:=n) (show k≤ys.length by omega)
  have hia:=invM_all (n:=n) (show k≤ys.length by omega)
  have hda:∀d∈qs.map Pc.data,d.length=lenOf size k:=fun d hd=>by
   obtain⟨p,hp,rfl⟩:=List.mem_map.1 hd
   exact hqd p hp
  have hLs:=lenOf_le (size:=size) (k:=k) (by omega)
  have H:Hp w S [] [] [⟨Shape.int .i64,3,.slice ra (qs.map Pc.index).length rc,qs.map Pc.index⟩,⟨SB,28,.slice va (qs.map Pc.data).length vc,qs.map Pc.data⟩] [Rp (Shape.slice pcS) [.slice a2 qs.length c3] qs] _:=H
  have H:Hp w S [] [] [⟨Shape.int .i64,3,.slice ra (qs.map Pc.index).length rc,qs.map Pc.index⟩] [Rp (Shape.slice SB) [.slice va (qs.map Pc.data).length vc] (qs.map Pc.data),Rp (Shape.slice pcS) [.slice a2 qs.length c3] qs] _:=H.freezeW 1 rfl
  refine qR 2 [.c [6,0],.c [7]] [(2,.I k),(3,.I n),(12,.I ((lenOf size k:Nat):Int)),(14,.slice ra (qs.map Pc.index).length rc),(15,.slice va (qs.map Pc.data).length vc)] ?_
  refine qG (sq 0 8) ?_
  refine qP 2 (sq 2 8) [(12,.I ((lenOf size k:Nat):Int)),(14,.slice ra (qs.map Pc.index).length rc),(15,.slice va (qs.map Pc.data).length vc),(57,.I k),(58,.I n)] ?_
  refine qK .seq (some 59) (sq 3 8) 70 #[.I k,.I n] (generator_spec (S:=Av S w [] (idsOf [] [⟨Shape.int .i64,3,.slice ra (qs.map Pc.index).length rc,qs.map Pc.index⟩])) k n (by omega) (by omega) (by omega)) ?_
  rintro _ w32 hE35⟨a33,c34,rfl,hr36⟩
  have H:=H.addN hE35 (F:=Rp (Shape.slice SB) [.slice a33 (gen k n).length c34] (gen k n)) hr36
  refine qF 5 [(12,.I ((lenOf size k:Nat):Int)),(14,.slice ra (qs.map Pc.index).length rc),(15,.slice va (qs.map Pc.data).length vc),(18,.slice a33 (gen k n).length c34)] ?_
  refine qR 1 [.c [7,0],.c [8]] [(12,.I ((lenOf size k:Nat):Int)),(14,.slice ra (qs.map Pc.index).length rc),(15,.slice va (qs.map Pc.data).length vc),(18,.slice a33 (gen k n).length c34)] ?_
  refine qG (sq 0 8) ?_
  refine qP 2 (sq 2 8) [(12,.I ((lenOf size k:Nat):Int)),(15,.slice va (qs.map Pc.data).length vc),(63,.slice a33 (gen k n).length c34),(64,.slice ra (qs.map Pc.index).length rc)] ?_
  have H:Hp w S [] [] [] [Rp (Shape.slice (Shape.int .i64)) [.slice ra (qs.map Pc.index).length rc] (qs.map Pc.index),Rp (Shape.slice SB) [.slice a33 (gen k n).length c34] (gen k n),Rp (Shape.slice SB) [.slice va (qs.map Pc.data).length vc] (qs.map Pc.data),Rp (Shape.slice pcS) [.slice a2 qs.length c3] qs] _:=H.freezeW 0 rfl
  have hq1:=H.rp 1 rfl
  have hq2:=H.rp 0 rfl
  have hq3:=pick_spec (S:=Av S w [] (idsOf [] [])) (m:=gen k n) hq1 (rows:=qs.map Pc.index) hq2 (by omega) (c:=k) hga (by omega) (by omega) hrows
  refine qK .seq (some 65) (sq 3 8) 112 #[.slice a33 (gen k n).length c34,.slice ra (qs.map Pc.index).length rc] hq3 ?_
  rintro _ w37-⟨a38,c39,rfl,H'⟩
  rw[hsub]at H'⊢
  have H:=H.back (M1:=[]) (W1:=[]) H'
  have H:Hp w S [] [] [⟨SB,28,.slice a38 (subM ys k n).length c39,subM ys k n⟩] [Rp (Shape.slice (Shape.int .i64)) [.slice ra (qs.map Pc.index).length rc] (qs.map Pc.index),Rp (Shape.slice SB) [.slice a33 (gen k n).length c34] (gen k n),Rp (Shape.slice SB) [.slice va (qs.map Pc.data).length vc] (qs.map Pc.data),Rp (Shape.slice pcS) [.slice a2 qs.length c3] qs] _:=H
  refine qF 5 [(12,.I ((lenOf size k:Nat):Int)),(15,.slice va (qs.map Pc.data).length vc),(20,.slice a38 (subM ys k n).length c39)] ?_
  refine qR 1 [.c [8,0],.c [9]] [(12,.I ((lenOf size k:Nat):Int)),(15,.slice va (qs.map Pc.data).length vc),(20,.slice a38 (subM ys k n).length c39)] ?_
  refine qG (sq 0 7) ?_
  refine qP 1 (sq 1 7) [(12,.I ((lenOf size k:Nat):Int)),(15,.slice va (qs.map Pc.data).length vc),(69,.slice a38 (subM ys k n).length c39)] ?_
  have H:Hp w S [] [] [] [Rp (Shape.slice SB) [.slice a38 (subM ys k n).length c39] (subM ys k n),Rp (Shape.slice (Shape.int .i64)) [.slice ra (qs.map Pc.index).length rc] (qs.map Pc.index),Rp (Shape.slice SB) [.slice a33 (gen k n).length c34] (gen k n),Rp (Shape.slice SB) [.slice va (qs.map Pc.data).length vc] (qs.map Pc.data),Rp (Shape.slice pcS) [.slice a2 qs.length c3] qs] _:=H.freezeW 0 rfl
  refine qK .seq (some 70) (sq 2 7) 113 #[.slice a38 (subM ys k n).length c39] (invert_spec (S:=Av S w [] (idsOf [] [])) (m:=subM ys k n) (H.rp 0 rfl) (by omega) (by rw[hsl];exact hsa) (by rw[hsl];exact hrg)) ?_
  rintro _ w40-⟨a41,c42,rfl,H'⟩
  have H:=H.back (M1:=[]) (W1:=[]) H'
  rw[show(redTo (subM ys k n) (ident (subM ys k n).length) (subM ys k n).length).2.2=invM ys k n by rw[hsl];rfl]at H
  have hvn:(subM ys k n).length=(invM ys k n).length:=by rw[hsl,hil]
  have H:=H.reW (ys:=invM ys k n) (v':=.slice a41 (invM ys k n).length c42) rfl (by rw[hvn])
  rw[show(Value.slice a41 (subM ys k n).length c42)=.slice a41 (invM ys k n).length c42 by rw[hvn]]
  have H:Hp w S [] [] [⟨SB,28,.slice a41 (invM ys k n).length c42,invM ys k n⟩] [Rp (Shape.slice SB) [.slice a38 (subM ys k n).length c39] (subM ys k n),Rp (Shape.slice (Shape.int .i64)) [.slice ra (qs.map Pc.index).length rc] (qs.map Pc.index),Rp (Shape.slice SB) [.slice a33 (gen k n).length c34] (gen k n),Rp (Shape.slice SB) [.slice va (qs.map Pc.data).length vc] (qs.map Pc.data),Rp (Shape.slice pcS) [.slice a2 qs.length c3] qs] _:=H
  have H:Hp w S [] [] [] [Rp (Shape.slice SB) [.slice a41 (invM ys k n).length c42] (invM ys k n),Rp (Shape.slice SB) [.slice a38 (subM ys k n).length c39] (subM ys k n),Rp (Shape.slice (Shape.int .i64)) [.slice ra (qs.map Pc.index).length rc] (qs.map Pc.index),Rp (Shape.slice SB) [.slice a33 (gen k n).length c34] (gen k n),Rp (Shape.slice SB) [.slice va (qs.map Pc.data).length vc] (qs.map Pc.data),Rp (Shape.slice pcS) [.slice a2 qs.length c3] qs] _:=H.freezeW 0 rfl
  refine qF 5 [(12,.I ((lenOf size k:Nat):Int)),(15,.slice va (qs.map Pc.data).length vc),(22,.slice a41 (invM ys k n).length c42)] ?_
  refine qR 6 [.c [10,0,1,0],.b 2,.c [11]] [(12,.I ((lenOf size k:Nat):Int)),(15,.slice va (qs.map Pc.data).length vc),(24,.slice none 0 0),(73,.slice a41 (invM ys k n).length c42),(74,.I (((invM ys k n).length:Nat):Int)),(75,.I 0)] ?_
  have H:=H.ownNil SB 28
  have H:Hp w S [] [] [⟨SB,28,.slice none (((datL ys k n (lenOf size k)).take 0).length) 0,(datL ys k n (lenOf size k)).take 0⟩] [Rp (Shape.slice SB) [.slice a41 (invM ys k n).length c42] (invM ys k n),Rp (Shape.slice SB) [.slice a38 (subM ys k n).length c39] (subM ys k n),Rp (Shape.slice (Shape.int .i64)) [.slice ra (qs.map Pc.index).length rc] (qs.map Pc.index),Rp (Shape.slice SB) [.slice a33 (gen k n).length c34] (gen k n),Rp (Shape.slice SB) [.slice va (qs.map Pc.data).length vc] (qs.map Pc.data),Rp (Shape.slice pcS) [.slice a2 qs.length c3] qs] w40:=H
  have H:=H.pick [0,4] rfl
  refine WK.loop (α:=Nat×Option Addr×Nat) (b:=cd Tryz.prog 75 [10,0,1,0,0]) (by as_aux_lemma=>kernel_rfl) (fun st_=>match st_ with|(j,ao,co)=>[(12,.I ((lenOf size k:Nat):Int)),(15,.slice va (qs.map Pc.data).length vc),(24,.slice ao (((datL ys k n (lenOf size k)).take j).length) co),(73,.slice a41 (invM ys k n).length c42),(74,.I (((invM ys k n).length:Nat):Int)),(75,.I j)]) (fun st_ w'=>match st_ with|(j,ao,co)=>Hp w S [] [] [⟨SB,28,.slice ao (((datL ys k n (lenOf size k)).take j).length) co,(datL ys k n (lenOf size k)).take j⟩] [Rp (Shape.slice SB) [.slice a41 (invM ys k n).length c42] (invM ys k n),Rp (Shape.slice SB) [.slice va (qs.map Pc.data).length vc] (qs.map Pc.data)] w'∧j≤(invM ys k n).length) (fun st_=>match st_ with|(j,ao,co)=>(invM ys k n).length-j) (0,none,0) ⟨H,Nat.zero_le _⟩ (rfl) ?_
  rintro⟨j,ao,co⟩w44⟨H,hinv1⟩hback43
  refine qR 3 [.c [10,0,1,0,0,1,0],.c [10,0,1,0,0,2],.l [10,0,1,0,0],.b 2,.c [11]] [(12,.I ((lenOf size k:Nat):Int)),(15,.slice va (qs.map Pc.data).length vc),(24,.slice ao (((datL ys k n (lenOf size k)).take j).length) co),(73,.slice a41 (invM ys k n).length c42),(74,.I (((invM ys k n).length:Nat):Int)),(75,.I j),(76,.bool (decide (((j:Int):Int)<(((invM ys k n).length:Nat):Int))))] ?_
  refine qD (((j:Int):Int)<(((invM ys k n).length:Nat):Int)) (fun h45=>?_) (fun h45=>?_)
  ·
   refine qR 4 [.c [10,0,1,0,0,2,0,0,0],.c [10,0,1,0,0,2,0,0,1],.b 3,.c [10,0,1,0,0,3],.l [10,0,1,0,0],.b 2,.c [11]] [(12,.I ((lenOf size k:Nat):Int)),(15,.slice va (qs.map Pc.data).length vc),(24,.slice ao (((datL ys k n (lenOf size k)).take j).length) co),(73,.slice a41 (invM ys k n).length c42),(74,.I (((invM ys k n).length:Nat):Int)),(75,.I j)] ?_
   refine qG (sq 0 3) ?_
   have hx46:j<(invM ys k n).length:=by omega
   refine qX .seq 77 (sq 1 3) 74 28 (j:Int) SB ((invM ys k n)[j]) H 0 rfl j (by omega) (List.getElem?_eq_getElem hx46) ?_
   intro b47 o48 es49 hr50 H
   obtain⟨a51,k52,rfl⟩:=Shape.slice_form' hr50
   have H:=H.add (F:=Rp SB [.slice a51 (((invM ys k n)[j]).length) k52] ((invM ys k n)[j])) hr50
   refine qL .seq 78 (sq 2 3) 28 b47 o48 0 (.slice a51 (((invM ys k n)[j]).length) k52) (H.fc 1 rfl) ?_
   refine qF 1 [(12,.I ((lenOf size k:Nat):Int)),(15,.slice va (qs.map Pc.data).length vc),(24,.slice ao (((datL ys k n (lenOf size k)).take j).length) co),(26,.slice a51 (((invM ys k n)[j]).length) k52),(73,.slice a41 (invM ys k n).length c42),(74,.I (((invM ys k n).length:Nat):Int)),(75,.I j)] ?_
   refine qG (sq 0 8) ?_
   refine qP 4 (sq 4 8) [(12,.I ((lenOf size k:Nat):Int)),(15,.slice va (qs.map Pc.data).length vc),(24,.slice ao (((datL ys k n (lenOf size k)).take j).length) co),(73,.slice a41 (invM ys k n).length c42),(74,.I (((invM ys k n).length:Nat):Int)),(75,.I j),(79,.slice ao (((datL ys k n (lenOf size k)).take j).length) co),(80,.slice a51 (((invM ys k n)[j]).length) k52),(81,.slice va (qs.map Pc.data).length vc),(82,.I ((lenOf size k:Nat):Int))] ?_
   refine qK .seq (some 83) (sq 5 8) 71 #[.slice a51 (((invM ys k n)[j]).length) k52,.slice va (qs.map Pc.data).length vc,.I ((lenOf size k:Nat):Int)] (mixed_spec (S:=fun _=>True) (row:=(invM ys k n)[j]) (ds:=qs.map Pc.data) (lenOf size k) (H.viewR 0 rfl) (H.viewR 3 rfl) (by rw[hia _ (List.getElem_mem _),hvl];exact Nat.le_refl _) (hda) (by omega)) ?_
   rintro v54 w53-H'
   have H:=H.back (M1:=[]) (W1:=[]) H'.reSbv
   obtain⟨a55,c56,rfl,hc57,hm58⟩:=H.ownForm 0 rfl
   have H:Hp w S [] [] [⟨Sb,5,.slice a55 ((mixAll ((invM ys k n)[j]) (qs.map Pc.data) (List.replicate (lenOf size k) 0#8)).length) c56,mixAll ((invM ys k n)[j]) (qs.map Pc.data) (List.replicate (lenOf size k) 0#8)⟩,⟨SB,28,.slice ao (((datL ys k n (lenOf size k)).take j).length) co,(datL ys k n (lenOf size k)).take j⟩] [Rp SB [.slice a51 (((invM ys k n)[j]).length) k52] ((invM ys k n)[j]),Fc b47 o48 [.slice a51 (((invM ys k n)[j]).length) k52],Rp (Shape.slice SB) [.slice a41 (invM ys k n).length c42] (invM ys k n),Rp (Shape.slice SB) [.slice va (qs.map Pc.data).length vc] (qs.map Pc.data)] _:=H
   refine RW.new (κ:=.seq) (d:=some 84) (r:=(sq 6 8)) (o:=.cells #[.slice a55 ((mixAll ((invM ys k n)[j]) (qs.map Pc.data) (List.replicate (lenOf size k) 0#8)).length) c56] 28 (0,0)) (v:=fun b=>.slice (some ⟨b,0,none⟩) 1 1) (fun b=>by as_aux_lemma=>kernel_rfl) (nofun) H ?_
   intro b59 w60 H
   have H:Hp w S [] [(b59,.cells #[.slice a55 ((mixAll ((invM ys k n)[j]) (qs.map Pc.data) (List.replicate (lenOf size k) 0#8)).length) c56] 28 (0,0))] [⟨SB,28,.slice ao (((datL ys k n (lenOf size k)).take j).length) co,(datL ys k n (lenOf size k)).take j⟩] [Rp SB [.slice a55 ((mixAll ((invM ys k n)[j]) (qs.map Pc.data) (List.replicate (lenOf size k) 0#8)).length) c56] (mixAll ((invM ys k n)[j]) (qs.map Pc.data) (List.replicate (lenOf size k) 0#8)),Rp SB [.slice a51 (((invM ys k n)[j]).length) k52] ((invM ys k n)[j]),Fc b47 o48 [.slice a51 (((invM ys k n)[j]).length) k52],Rp (Shape.slice SB) [.slice a41 (invM ys k n).length c42] (invM ys k n),Rp (Shape.slice SB) [.slice va (qs.map Pc.data).length vc] (qs.map Pc.data)] _:=H.freezeW 0 rfl
   have H:=H.freeze 0 rfl SB ([mixAll ((invM ys k n)[j]) (qs.map Pc.data) (List.replicate (lenOf size k) 0#8)]:List (List (BitVec 8))) 1 (by simp[maxLen]) (by first|exact Nat.le_refl _|simp) (EsP.cons (c:=[.slice a55 ((mixAll ((invM ys k n)[j]) (qs.map Pc.data) (List.replicate (lenOf size k) 0#8)).length) c56]) (H.rp 0 rfl) EsP.nil)
   have H:Hp w S [] [] [⟨SB,28,.slice ao (((datL ys k n (lenOf size k)).take j).length) co,(datL ys k n (lenOf size k)).take j⟩] [Rp (Shape.slice SB) [.slice (some ⟨b59,0,none⟩) 1 1] ([mixAll ((invM ys k n)[j]) (qs.map Pc.data) (List.replicate (lenOf size k) 0#8)]:List (List (BitVec 8))),Rp SB [.slice a55 ((mixAll ((invM ys k n)[j]) (qs.map Pc.data) (List.replicate (lenOf size k) 0#8)).length) c56] (mixAll ((invM ys k n)[j]) (qs.map Pc.data) (List.replicate (lenOf size k) 0#8)),Rp SB [.slice a51 (((invM ys k n)[j]).length) k52] ((invM ys k n)[j]),Fc b47 o48 [.slice a51 (((invM ys k n)[j]).length) k52],Rp (Shape.slice SB) [.slice a41 (invM ys k n).length c42] (invM ys k n),Rp (Shape.slice SB) [.slice va (qs.map Pc.data).length vc] (qs.map Pc.data)] _:=H
   refine RW.appendW (d:=some 85) (r:=(sq 7 8)) (T:=74) (ty:=74) (e:=28) (m:=1) (by_:=24) (v:=.slice ao (((datL ys k n (lenOf size k)).take j).length) co) (a2:=(some ⟨b59,0,none⟩)) (l2:=1) (c2:=1) (zs:=(datL ys k n (lenOf size k)).take (j+1)) (by as_aux_lemma=>kernel_rfl) (by as_aux_lemma=>kernel_rfl) rfl H 0 rfl 0 rfl (by rw[hqs];exact datL_take (by omega) (by omega)) (by rw[List.length_take,datL_len (by omega)];omega) ?_
   intro a61 c62 w64 H hc63
   have H:Hp w S [] [] [⟨SB,28,.slice a61 (((datL ys k n (lenOf size k)).take (j+1)).length) c62,(datL ys k n (lenOf size k)).take (j+1)⟩] [Rp (Shape.slice SB) [.slice (some ⟨b59,0,none⟩) 1 1] ([mixAll ((invM ys k n)[j]) (qs.map Pc.data) (List.replicate (lenOf size k) 0#8)]:List (List (BitVec 8))),Rp SB [.slice a55 ((mixAll ((invM ys k n)[j]) (qs.map Pc.data) (List.replicate (lenOf size k) 0#8)).length) c56] (mixAll ((invM ys k n)[j]) (qs.map Pc.data) (List.replicate (lenOf size k) 0#8)),Rp SB [.slice a51 (((invM ys k n)[j]).length) k52] ((invM ys k n)[j]),Fc b47 o48 [.slice a51 (((invM ys k n)[j]).length) k52],Rp (Shape.slice SB) [.slice a41 (invM ys k n).length c42] (invM ys k n),Rp (Shape.slice SB) [.slice va (qs.map Pc.data).length vc] (qs.map Pc.data)] _:=H
   refine qF 1 [(12,.I ((lenOf size k:Nat):Int)),(15,.slice va (qs.map Pc.data).length vc),(24,.slice a61 (((datL ys k n (lenOf size k)).take (j+1)).length) c62),(73,.slice a41 (invM ys k n).length c42),(74,.I (((invM ys k n).length:Nat):Int)),(75,.I j)] ?_
   refine qR 1 [.c [10,0,1,0,0,3],.l [10,0,1,0,0],.b 2,.c [11]] [(12,.I ((lenOf size k:Nat):Int)),(15,.slice va (qs.map Pc.data).length vc),(24,.slice a61 (((datL ys k n (lenOf size k)).take (j+1)).length) c62),(73,.slice a41 (invM ys k n).length c42),(74,.I (((invM ys k n).length:Nat):Int)),(75,.I j)] ?_
   refine qG (sq 0 2) ?_
   refine qI .seq 86 (sq 1 2) ((j:Int)+1) ?_
   refine qF 1 [(12,.I ((lenOf size k:Nat):Int)),(15,.slice va (qs.map Pc.data).length vc),(24,.slice a61 (((datL ys k n (lenOf size k)).take (j+1)).length) c62),(73,.slice a41 (invM ys k n).length c42),(74,.I (((invM ys k n).length:Nat):Int)),(75,.I ((j:Int)+1))] ?_
   have H:=H.pick [4,5] rfl
   exact WK.back (hback43 (j+1,a61,c62) _ ⟨H,by omega⟩ (by first|omega|(simp only[];omega))) (by as_aux_lemma=>kernel_rfl)
  ·
   refine qR 3 [.c [12]] [(8,.slice ao (((datL ys k n (lenOf size k)).take j).length) co),(9,.I ((lenOf size k:Nat):Int)),(10,.I 0)] ?_
   refine qT (.tuple #[.slice ao (((datL ys k n (lenOf size k)).take j).length) co,.I ((lenOf size k:Nat):Int),.I 0]) Tryz.func75 ?_
   have H:Hp w S [] [] [] [Rp (Shape.slice SB) [.slice ao (((datL ys k n (lenOf size k)).take j).length) co] ((datL ys k n (lenOf size k)).take j),Rp (Shape.slice SB) [.slice a41 (invM ys k n).length c42] (invM ys k n),Rp (Shape.slice SB) [.slice va (qs.map Pc.data).length vc] (qs.map Pc.data)] _:=H.freezeW 0 rfl
   have hje:j=k:=by omega
   rw[List.take_of_length_le (by rw[datL_len (by omega)];omega)]at H⊢
   exact⟨_,rfl,H.done,_,_,ys,rfl,hys,hord,H.out (H.rp 0 rfl)⟩
end Go.Proofs.YtcafjhnjhhicdaaGreatDoor
