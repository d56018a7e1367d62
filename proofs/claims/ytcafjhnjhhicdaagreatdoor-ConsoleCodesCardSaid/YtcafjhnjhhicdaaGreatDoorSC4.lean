import Derived.Test.YtcafjhnjhhicdaaGreatDoorSC3
namespace Go.Proofs.YtcafjhnjhhicdaaGreatDoor
open Go.BX
open Go.RowKit Go.Shelf
theorem dig_byte:∀d:Fin 10,UInt8.ofNat (48+d.val)≠58∧UInt8.ofNat (48+d.val)≠32∧UInt8.ofNat (48+d.val)≠10:=by decide
theorem nib_byte:∀d:Fin 16,nib d.val≠58∧nib d.val≠32∧nib d.val≠10:=by decide
theorem dig_ne(n:Nat):∀c∈(digB n).data.toList,c≠58∧c≠32∧c≠10:=by
 show∀c∈Lib.decDigits n,c≠58∧c≠32∧c≠10
 induction n using Nat.strongRecOn with
 |_ n ih=>
  rw[Lib.decDigits.eq_def n]
  by_cases h:n<10
  · rw[dif_pos h]
    intro c hc
    rw[List.mem_singleton.1 hc]
    exact dig_byte ⟨n, h⟩
  · rw[dif_neg h]
    intro c hc
    rcases List.mem_append.1 hc with hc|hc
    ·exact ih _ (Nat.div_lt_self (by omega) (by decide)) c hc
    · rw[List.mem_singleton.1 hc]
      exact dig_byte ⟨n % 10, Nat.mod_lt _ (by decide)⟩
theorem hexL_ne(xs:List (BitVec 8)):∀c∈hexL xs,c≠58∧c≠32∧c≠10:=by
 induction xs with
 |nil=>nofun
 |cons x r ih=>
  intro c hc
  change c∈nib (x>>>4).toNat::nib (x&&&15#8).toNat::hexL r at hc
  rcases List.mem_cons.1 hc with rfl|hc
  ·exact nib_byte ⟨_,hi_lt x⟩
  · rcases List.mem_cons.1 hc with rfl | hc
    ·exact nib_byte ⟨_,lo_lt x⟩
    ·exact ih c hc
theorem hexB_ne(xs:List (BitVec 8)):∀c∈(hexB xs).data.toList,c≠58∧c≠32∧c≠10:=by
 by_cases h:xs.length=0
 · rw[hexB_none h]
   intro c hc
   rw[List.mem_singleton.1 hc]
   decide
 · rw[hexB_some h]
   exact hexL_ne xs
theorem hexB_pos(xs:List (BitVec 8)):0<(hexB xs).size:=by
 rw[hexB_size]
 split<;>omega
theorem dig_pos(n:Nat):0<(digB n).size:=by
 show 0<(Lib.decDigits n).toArray.size
 rw[List.size_toArray,Lib.decDigits.eq_def n]
 split<;>simp
theorem wd_dig(n:Nat):Wd (digB n):=⟨dig_pos n,fun c hc=>(dig_ne n c hc).2.1⟩
theorem wd_hex(xs:List (BitVec 8)):Wd (hexB xs):=⟨hexB_pos xs,fun c hc=>(hexB_ne xs c hc).2.1⟩
def tok(E:List (List (BitVec 8)))(i:Nat):ByteArray:=digB i++colB++hexB (rowAt E i)
theorem wd_tok(E:List (List (BitVec 8)))(i:Nat):Wd (tok E i):=by
 refine⟨?_,fun c hc=>?_⟩
 · have :=dig_pos i
   unfold tok
   rw[ByteArray.size_append, ByteArray.size_append]
   omega
 · unfold tok at hc
   rw[app_data,app_data]at hc
   rcases List.mem_append.1 hc with hc|hc
   · rcases List.mem_append.1 hc with hc|hc
     ·exact(dig_ne i c hc).2.1
     ·rw[List.mem_singleton.1 hc];decide
   ·exact(hexB_ne _ c hc).2.1
theorem tok_le{E:List (List (BitVec 8))}{i l:Nat}(hi:i≤1000000)(h:(rowAt E i).length≤l):(tok E i).size≤2*l+9:=by
 have h1:=dig_len hi
 have h2:=hexB_le (rowAt E i)
 have h3:colB.size=1:=rfl
 unfold tok
 rw[ByteArray.size_append,ByteArray.size_append]
 omega
theorem row_le{xs:List (BitVec 8)}{k n i:Nat}(hk:1≤k)(hkn:k≤n)(hi:i<n)(hx:xs.length≤200):(rowAt (enc xs k n) i).length≤200:=by
 rw[rowAt_len encD_all (by rw[enc_len hkn];exact hi)]
 exact Nat.le_trans (lenOf_le (by omega)) hx
def psOf(xs:List (BitVec 8))(k n:Nat)(ids:List Nat):List Pc:=ids.map fun(i:Nat)=>(⟨(i:Int),rowAt (enc xs k n) i⟩:Pc)
theorem psOf_len{xs:List (BitVec 8)}{k n:Nat}{ids:List Nat}:(psOf xs k n ids).length=ids.length:=List.length_map ..
theorem psOf_of{xs:List (BitVec 8)}{k n:Nat}{ids:List Nat}(h1:ids.Nodup)(h2:∀i∈ids,i<n):Of xs k n (psOf xs k n ids)where
 nd:=by
  unfold psOf
  rw[List.map_map]
  refine List.pairwise_map.2 (List.Pairwise.imp (fun hab e=>hab ?_) h1)
  exact Int.ofNat.inj e
 rng p hp:=by
  obtain⟨i,hi,rfl⟩:=List.mem_map.1 hp
  have:=h2 i hi
  exact⟨Int.natCast_nonneg _,by show(i:Int)<n;omega⟩
 dat p hp:=by
  obtain⟨i,hi,rfl⟩:=List.mem_map.1 hp
  rfl
theorem psOf_succ{xs:List (BitVec 8)}{k n i:Nat}{ids:List Nat}(h:i<ids.length):(psOf xs k n ids).take i++[(⟨((ids[i]:Nat):Int),rowAt (enc xs k n) ids[i]⟩:Pc)]=(psOf xs k n ids).take (i+1):=by
 rw[List.take_succ_eq_append_getElem (by rw[psOf_len];exact h)]
 simp[psOf]
theorem tok_at{E:List (List (BitVec 8))}{ids:List Nat}{i:Nat}(h:i<ids.length):(ids.map (tok E))[i]?=some (tok E ids[i]):=by
 rw[List.getElem?_map,List.getElem?_eq_getElem h];rfl
theorem three_le{a b d m:Nat}(h1:a≤m)(h2:b≤m)(h3:d≤m):∀x∈([a,b,d]:List Nat),x≤m:=by
 intro x hx
 simp only[List.mem_cons,List.not_mem_nil,or_false]at hx
 rcases hx with rfl|rfl|rfl
 ·exact h1
 ·exact h2
 ·exact h3
theorem piece_sz{i:Nat}{d:List (BitVec 8)}(hi:i≤1000000)(hd:d.length≤1000000):(digB i++colB++hexB d).size<4294967281:=by
 have h1:=dig_len hi
 have h2:=hexB_le d
 have h3:colB.size=1:=rfl
 rw[ByteArray.size_append,ByteArray.size_append]
 omega
theorem piece_spec{S:Nat→Prop}{w:World}{i:Nat}{d:List (BitVec 8)}(hi:i≤1000000)(hd:d.length≤1000000)(hq:(Fz cQ).p S w):
 Calls Tryz.prog 43 #[.string (digB i++colB++hexB d)] w (Ret fun v w'=>Ext w w'∧∃(a':Option Addr)(c':Nat),v=.tuple #[.agg #[.I i,.slice a' d.length c'],.nilIface]∧SB.rep (Nw S w) w' [.slice a' d.length c'] d):=by
 have hsz:(digB i++colB++hexB d).size<4294967281:=piece_sz hi hd
 refine qS (fn:=Tryz.f43) (n:=38) (σ:=[(0,.string (digB i++colB++hexB d))]) Tryz.func43 ?_
 have H:=Hp.startF (w:=w) (S:=S) (G:=[Fz cQ]) (.cons hq .nil)
 refine qR 1 [.c [0],.c [1]] [(0,.string (digB i++colB++hexB d))] ?_
 refine qG (sq 0 2) ?_
 refine qB .seq 2 (sq 1 2) #[.I 0,.slice none 0 0] 82 H ?_
 intro b1 w2 H
 refine qF 1 [(0,.string (digB i++colB++hexB d)),(2,.P b1 0)] ?_
 refine qR 1 [.c [1,0],.c [2]] [(0,.string (digB i++colB++hexB d)),(2,.P b1 0)] ?_
 refine qG (sq 0 9) ?_
 refine qP 1 (sq 1 9) [(2,.P b1 0),(11,.string (digB i++colB++hexB d))] ?_
 refine qK .seq (some 12) (sq 2 9) 74 #[.string (digB i++colB++hexB d),.string (⟨#[58]⟩:ByteArray)] (cut_c (a:=digB i) (b:=hexB d) (fun c hc=>(dig_ne i c hc).1) hsz (Fz.of (H.fact 0 rfl))) ?_
 rintro _ w3 hE4 rfl
 have H:=H.ext hE4
 refine qF 7 [(2,.P b1 0),(4,.string (digB i)),(5,.string (hexB d)),(6,.bool true)] ?_
 refine qR 6 [.c [3,0],.c [4]] [(2,.P b1 0),(4,.string (digB i)),(5,.string (hexB d))] ?_
 refine qG (sq 0 7) ?_
 refine qP 1 (sq 1 7) [(2,.P b1 0),(5,.string (hexB d)),(21,.string (digB i))] ?_
 refine qK .seq (some 22) (sq 2 7) 67 #[.string (digB i)] (number_spec (S:=Av S w [] (idsOf [(b1,.cells #[.I 0,.slice none 0 0] 82 (0,0))] [])) (n:=i) (by omega) (H.fact 0 rfl)) ?_
 rintro _ w5 hE6 rfl
 have H:=H.ext hE6
 refine qF 5 [(2,.P b1 0),(5,.string (hexB d)),(7,.I i),(8,.nilIface)] ?_
 refine qR 6 [.c [5,0],.c [6]] [(2,.P b1 0),(5,.string (hexB d)),(7,.I i)] ?_
 refine qG (sq 0 7) ?_
 refine qP 1 (sq 1 7) [(2,.P b1 0),(7,.I i),(30,.string (hexB d))] ?_
 refine qK .seq (some 31) (sq 2 7) 39 #[.string (hexB d)] (bytes_c (S:=Av S w [] (idsOf [(b1,.cells #[.I 0,.slice none 0 0] 82 (0,0))] [])) (xs:=d) (by omega)) ?_
 rintro _ w7 hE10⟨a8,c9,rfl,hr11⟩
 have H:=H.addN hE10 (F:=Rp SB [.slice a8 d.length c9] d) hr11
 refine qF 5 [(2,.P b1 0),(7,.I i),(8,.nilIface),(9,.slice a8 d.length c9)] ?_
 refine qR 1 [.c [6,0],.c [7]] [(2,.P b1 0),(7,.I i),(8,.nilIface),(9,.slice a8 d.length c9)] ?_
 refine qG (sq 0 6) ?_
 refine qP 4 (sq 4 6) [(2,.P b1 0),(36,.agg #[.I i,.slice a8 d.length c9]),(37,.nilIface)] ?_
 refine qW 82 b1 0 (sq 5 6) (.agg #[.I i,.slice a8 d.length c9]) [(b1,.cells #[.I i,.slice a8 d.length c9] 82 (0,0))] H 0 rfl rfl ?_
 intro w12 H
 refine qF 1 [(2,.P b1 0),(3,.nilIface)] ?_
 refine qRB (.tuple #[.agg #[.I i,.slice a8 d.length c9],.nilIface]) Tryz.func43 (v2 (.cell 2 82) (.tmp 3) (vC (H.cells 0 rfl)) vT) ?_
 exact⟨_,rfl,H.done,_,_,rfl,H.out (H.rp 0 rfl)⟩
theorem decode_spec{S:Nat→Prop}{w:World}{xs:List (BitVec 8)}{k n cb:Nat}{ids:List Nat}{a:Option Addr}{c:Nat}(h:(Rp (Shape.slice Shape.str) [.slice a (([digB k,digB n,digB xs.length]++ids.map (tok (enc xs k n))).length) c] ([digB k,digB n,digB xs.length]++ids.map (tok (enc xs k n)))).p S w)(hk:1≤k)(hkn:k≤n)(hn:n≤9)(hxl:xs.length≤200)(hid:∀i∈ids,i<n)(hnd:ids.Nodup)(hki:k≤ids.length)(hi9:ids.length≤9)(hq:(Fz cQ).p S w):
 Calls Tryz.prog 16 #[.P cb 0,.slice a (([digB k,digB n,digB xs.length]++ids.map (tok (enc xs k n))).length) c] w (Ret fun v w'=>Ext w w'∧v=.tuple #[.string (hexB xs++(⟨#[10]⟩:ByteArray)),.nilIface]):=by
 have hwl:([digB k,digB n,digB xs.length]++ids.map (tok (enc xs k n))).length=ids.length+3:=by simp
 have hml:(ids.map (tok (enc xs k n))).length=ids.length:=List.length_map ..
 have hkn9:∀m∈([k,n,xs.length]:List Nat),m≤1000000:=three_le (by omega) (by omega) (by omega)
 have hnl:([k,n,xs.length]:List Nat).length≤1000000:=by simp
 refine qS (fn:=Tryz.f16) (n:=67) (σ:=[(0,.P cb 0),(1,.slice a (([digB k,digB n,digB xs.length]++ids.map (tok (enc xs k n))).length) c)]) Tryz.func16 ?_
 have H:=Hp.startF (w:=w) (S:=S) (G:=[Rp (Shape.slice Shape.str) [.slice a (([digB k,digB n,digB xs.length]++ids.map (tok (enc xs k n))).length) c] ([digB k,digB n,digB xs.length]++ids.map (tok (enc xs k n))),Fz cQ]) (.rp h (.cons hq .nil))
 refine qR 5 [.c [1,0,1],.c [2]] [(1,.slice a (([digB k,digB n,digB xs.length]++ids.map (tok (enc xs k n))).length) c),(17,.bool (decide ((((([digB k,digB n,digB xs.length]++ids.map (tok (enc xs k n))).length:Nat):Int):Int)<4)))] ?_
 refine qD ((((([digB k,digB n,digB xs.length]++ids.map (tok (enc xs k n))).length:Nat):Int):Int)<4) (fun h1=>?_) (fun h1=>?_)
 ·
  omega
 ·
  refine qR 2 [.c [2,0],.c [3]] [(1,.slice a (([digB k,digB n,digB xs.length]++ids.map (tok (enc xs k n))).length) c)] ?_
  refine qG (sq 0 8) ?_
  refine qP 1 (sq 1 8) [(1,.slice a (([digB k,digB n,digB xs.length]++ids.map (tok (enc xs k n))).length) c),(20,.slice a (([digB k,digB n,digB xs.length]++ids.map (tok (enc xs k n))).length) c)] ?_
  refine RW.slice (κ:=.seq) (d:=some 21) (r:=(sq 2 8)) (T:=22) (e:=9) (sh:=Shape.str) (a:=a) (len:=(([digB k,digB n,digB xs.length]++ids.map (tok (enc xs k n))).length)) (cap:=c) (zs:=(([k,n,xs.length]:List Nat).map digB)) (lv:=none) (hv:=(some (.I 3))) (by as_aux_lemma=>kernel_rfl) (by as_aux_lemma=>kernel_rfl) H 0 rfl 0 3 .nil (.mk (by omega)) (by omega) (by omega) (rfl) ?_
  intro a2 H
  refine qK .seq (some 22) (sq 3 8) 38 #[.slice a2 ((([k,n,xs.length]:List Nat).map digB).length) c] (numbers_spec (S:=Av S w [] (idsOf [] [])) (ns:=([k,n,xs.length]:List Nat)) (H.rp 0 rfl) hkn9 hnl (H.fact 2 rfl)) ?_
  rintro _ w3-⟨a4,c5,rfl,H'⟩
  have H:=H.back (M1:=[]) (W1:=[]) H'
  have H:Hp w S [] [] [⟨Shape.int .i64,3,.slice a4 ((nums ([k,n,xs.length]:List Nat)).length) c5,(nums ([k,n,xs.length]:List Nat))⟩] [Rp (Shape.slice Shape.str) [.slice a2 ((([k,n,xs.length]:List Nat).map digB).length) c] (([k,n,xs.length]:List Nat).map digB),Rp (Shape.slice Shape.str) [.slice a (([digB k,digB n,digB xs.length]++ids.map (tok (enc xs k n))).length) c] ([digB k,digB n,digB xs.length]++ids.map (tok (enc xs k n))),Fz cQ] _:=H
  have H:Hp w S [] [] [⟨Shape.int .i64,3,.slice a4 3 c5,([(k:Int),(n:Int),((xs.length:Nat):Int)]:List Int)⟩] [Rp (Shape.slice Shape.str) [.slice a2 ((([k,n,xs.length]:List Nat).map digB).length) c] (([k,n,xs.length]:List Nat).map digB),Rp (Shape.slice Shape.str) [.slice a (([digB k,digB n,digB xs.length]++ids.map (tok (enc xs k n))).length) c] ([digB k,digB n,digB xs.length]++ids.map (tok (enc xs k n))),Fz cQ] _:=H
  have H:Hp w S [] [] [] [Rp (Shape.slice (Shape.int .i64)) [.slice a4 3 c5] ([(k:Int),(n:Int),((xs.length:Nat):Int)]:List Int),Rp (Shape.slice Shape.str) [.slice a2 ((([k,n,xs.length]:List Nat).map digB).length) c] (([k,n,xs.length]:List Nat).map digB),Rp (Shape.slice Shape.str) [.slice a (([digB k,digB n,digB xs.length]++ids.map (tok (enc xs k n))).length) c] ([digB k,digB n,digB xs.length]++ids.map (tok (enc xs k n))),Fz cQ] _:=H.freezeW 0 rfl
  refine qF 5 [(1,.slice a (([digB k,digB n,digB xs.length]++ids.map (tok (enc xs k n))).length) c),(6,.slice a4 3 c5),(7,.nilIface)] ?_
  refine qR 9 [.c [5,0,0],.c [5,0,1],.c [6]] [(1,.slice a (([digB k,digB n,digB xs.length]++ids.map (tok (enc xs k n))).length) c),(6,.slice a4 3 c5),(8,.slice none 0 0)] ?_
  have H:=H.pick [0,2,3] rfl
  refine qG (sq 0 4) ?_
  refine qP 1 (sq 1 4) [(6,.slice a4 3 c5),(8,.slice none 0 0),(28,.slice a (([digB k,digB n,digB xs.length]++ids.map (tok (enc xs k n))).length) c)] ?_
  refine RW.slice (κ:=.seq) (d:=some 29) (r:=(sq 2 4)) (T:=22) (e:=9) (sh:=Shape.str) (a:=a) (len:=(([digB k,digB n,digB xs.length]++ids.map (tok (enc xs k n))).length)) (cap:=c) (zs:=(ids.map (tok (enc xs k n)))) (lv:=(some (.I 3))) (hv:=none) (by as_aux_lemma=>kernel_rfl) (by as_aux_lemma=>kernel_rfl) H 1 rfl 3 (([digB k,digB n,digB xs.length]++ids.map (tok (enc xs k n))).length) (.mk (by omega)) .nil (by omega) (by omega) (by rw[List.take_of_length_le (Nat.le_refl _)];rfl) ?_
  intro a6 H
  refine qF 2 [(6,.slice a4 3 c5),(8,.slice none 0 0),(29,.slice a6 ((ids.map (tok (enc xs k n))).length) (c-3)),(30,.I (((ids.map (tok (enc xs k n))).length:Nat):Int)),(31,.I 0)] ?_
  refine qR 1 [.c [5,0,1,0],.b 0,.c [6]] [(6,.slice a4 3 c5),(8,.slice none 0 0),(29,.slice a6 ((ids.map (tok (enc xs k n))).length) (c-3)),(30,.I (((ids.map (tok (enc xs k n))).length:Nat):Int)),(31,.I 0)] ?_
  have H:=H.ownNil pcS 82
  refine WK.loop (α:=Nat×Option Addr×Nat) (b:=cd Tryz.prog 16 [5,0,1,0,0]) (by as_aux_lemma=>kernel_rfl) (fun st_=>match st_ with|(i,ao,co)=>[(6,.slice a4 3 c5),(8,.slice ao (((psOf xs k n ids).take i).length) co),(29,.slice a6 ((ids.map (tok (enc xs k n))).length) (c-3)),(30,.I (((ids.map (tok (enc xs k n))).length:Nat):Int)),(31,.I i)]) (fun st_ w'=>match st_ with|(i,ao,co)=>Hp w S [] [] [⟨pcS,82,.slice ao (((psOf xs k n ids).take i).length) co,((psOf xs k n ids).take i)⟩] [Rp (Shape.slice Shape.str) [.slice a6 ((ids.map (tok (enc xs k n))).length) (c-3)] (ids.map (tok (enc xs k n))),Rp (Shape.slice (Shape.int .i64)) [.slice a4 3 c5] ([(k:Int),(n:Int),((xs.length:Nat):Int)]:List Int),Rp (Shape.slice Shape.str) [.slice a (([digB k,digB n,digB xs.length]++ids.map (tok (enc xs k n))).length) c] ([digB k,digB n,digB xs.length]++ids.map (tok (enc xs k n))),Fz cQ] w'∧i≤ids.length) (fun st_=>match st_ with|(i,ao,co)=>ids.length-i) (0,none,0) ⟨H,Nat.zero_le _⟩ (rfl) ?_
  rintro⟨i,ao,co⟩w8⟨H,hinv0⟩hback7
  have hzl:((psOf xs k n ids).take i).length=i:=by rw[List.length_take,psOf_len];omega
  refine qR 3 [.c [5,0,1,0,0,1,0],.c [5,0,1,0,0,2],.l [5,0,1,0,0],.b 0,.c [6]] [(6,.slice a4 3 c5),(8,.slice ao (((psOf xs k n ids).take i).length) co),(29,.slice a6 ((ids.map (tok (enc xs k n))).length) (c-3)),(30,.I (((ids.map (tok (enc xs k n))).length:Nat):Int)),(31,.I i),(32,.bool (decide (((i:Int):Int)<(((ids.map (tok (enc xs k n))).length:Nat):Int))))] ?_
  refine qD (((i:Int):Int)<(((ids.map (tok (enc xs k n))).length:Nat):Int)) (fun h9=>?_) (fun h9=>?_)
  ·
   have hil:i<ids.length:=by omega
   have hidn:ids[i]<n:=hid _ (List.getElem_mem hil)
   refine qR 4 [.c [5,0,1,0,0,2,0,0,0],.c [5,0,1,0,0,2,0,0,1],.b 1,.c [5,0,1,0,0,3],.l [5,0,1,0,0],.b 0,.c [6]] [(6,.slice a4 3 c5),(8,.slice ao (((psOf xs k n ids).take i).length) co),(29,.slice a6 ((ids.map (tok (enc xs k n))).length) (c-3)),(30,.I (((ids.map (tok (enc xs k n))).length:Nat):Int)),(31,.I i)] ?_
   refine qG (sq 0 3) ?_
   have hx10:i<(ids.map (tok (enc xs k n))).length:=by omega
   refine qX .seq 33 (sq 1 3) 22 9 (i:Int) Shape.str (tok (enc xs k n) ids[i]) H 0 rfl i (by omega) (tok_at hil) ?_
   intro b11 o12 es13 hr14 H
   obtain⟨rfl,hshr14⟩:=hr14
   refine qL .seq 34 (sq 2 3) 9 b11 o12 0 (.string (tok (enc xs k n) ids[i])) (H.fc 0 rfl) ?_
   refine qF 1 [(6,.slice a4 3 c5),(8,.slice ao (((psOf xs k n ids).take i).length) co),(10,.string (tok (enc xs k n) ids[i])),(29,.slice a6 ((ids.map (tok (enc xs k n))).length) (c-3)),(30,.I (((ids.map (tok (enc xs k n))).length:Nat):Int)),(31,.I i)] ?_
   refine qR 1 [.c [5,0,1,0,0,2,0,0,1,0],.c [5,0,1,0,0,2,0,0,2],.b 1,.c [5,0,1,0,0,3],.l [5,0,1,0,0],.b 0,.c [6]] [(6,.slice a4 3 c5),(8,.slice ao (((psOf xs k n ids).take i).length) co),(10,.string (tok (enc xs k n) ids[i])),(29,.slice a6 ((ids.map (tok (enc xs k n))).length) (c-3)),(30,.I (((ids.map (tok (enc xs k n))).length:Nat):Int)),(31,.I i)] ?_
   have H:=H.pick [1,2,3,4] rfl
   refine qG (sq 0 8) ?_
   refine qP 1 (sq 1 8) [(6,.slice a4 3 c5),(8,.slice ao (((psOf xs k n ids).take i).length) co),(29,.slice a6 ((ids.map (tok (enc xs k n))).length) (c-3)),(30,.I (((ids.map (tok (enc xs k n))).length:Nat):Int)),(31,.I i),(36,.string (tok (enc xs k n) ids[i]))] ?_
   refine qK .seq (some 37) (sq 2 8) 43 #[.string (tok (enc xs k n) ids[i])] (piece_spec (S:=Av S w [] (idsOf [] [⟨pcS,82,.slice ao (((psOf xs k n ids).take i).length) co,((psOf xs k n ids).take i)⟩])) (i:=ids[i]) (d:=(rowAt (enc xs k n) ids[i])) (by omega) (Nat.le_trans (row_le hk hkn hidn hxl) (by decide)) (H.fact 3 rfl)) ?_
   rintro _ w15 hE18⟨a16,c17,rfl,hr19⟩
   have H:=H.addN hE18 (F:=Rp SB [.slice a16 ((rowAt (enc xs k n) ids[i]).length) c17] (rowAt (enc xs k n) ids[i])) hr19
   refine qP 3 (sq 5 8) [(6,.slice a4 3 c5),(8,.slice ao (((psOf xs k n ids).take i).length) co),(29,.slice a6 ((ids.map (tok (enc xs k n))).length) (c-3)),(30,.I (((ids.map (tok (enc xs k n))).length:Nat):Int)),(31,.I i),(38,.agg #[.I ((ids[i]:Nat):Int),.slice a16 ((rowAt (enc xs k n) ids[i]).length) c17]),(39,.nilIface)] ?_
   refine qB .seq 11 (sq 6 8) #[.I 0,.slice none 0 0] 82 H ?_
   intro b20 w21 H
   refine qW 82 b20 0 (sq 7 8) (.agg #[.I ((ids[i]:Nat):Int),.slice a16 ((rowAt (enc xs k n) ids[i]).length) c17]) [(b20,.cells #[.I ((ids[i]:Nat):Int),.slice a16 ((rowAt (enc xs k n) ids[i]).length) c17] 82 (0,0))] H 0 rfl rfl ?_
   intro w22 H
   refine qF 1 [(6,.slice a4 3 c5),(8,.slice ao (((psOf xs k n ids).take i).length) co),(11,.P b20 0),(12,.nilIface),(29,.slice a6 ((ids.map (tok (enc xs k n))).length) (c-3)),(30,.I (((ids.map (tok (enc xs k n))).length:Nat):Int)),(31,.I i)] ?_
   refine qR 5 [.c [5,0,1,0,0,2,0,0,3],.b 1,.c [5,0,1,0,0,3],.l [5,0,1,0,0],.b 0,.c [6]] [(6,.slice a4 3 c5),(8,.slice ao (((psOf xs k n ids).take i).length) co),(11,.P b20 0),(29,.slice a6 ((ids.map (tok (enc xs k n))).length) (c-3)),(30,.I (((ids.map (tok (enc xs k n))).length:Nat):Int)),(31,.I i)] ?_
   refine qG (sq 0 5) ?_
   refine qP 1 (sq 1 5) [(6,.slice a4 3 c5),(8,.slice ao (((psOf xs k n ids).take i).length) co),(11,.P b20 0),(29,.slice a6 ((ids.map (tok (enc xs k n))).length) (c-3)),(30,.I (((ids.map (tok (enc xs k n))).length:Nat):Int)),(31,.I i),(43,.slice ao (((psOf xs k n ids).take i).length) co)] ?_
   refine qL .seq 44 (sq 2 5) 82 b20 0 0 (.agg #[.I ((ids[i]:Nat):Int),.slice a16 ((rowAt (enc xs k n) ids[i]).length) c17]) (H.cells 0 rfl) ?_
   refine RW.new (κ:=.seq) (d:=some 45) (r:=(sq 3 5)) (o:=.cells #[.I ((ids[i]:Nat):Int),.slice a16 ((rowAt (enc xs k n) ids[i]).length) c17] 82 (0,0)) (v:=fun b=>.slice (some ⟨b,0,none⟩) 1 1) (fun b=>by as_aux_lemma=>kernel_rfl) (nofun) H ?_
   intro b23 w24 H
   have H:=H.freeze 0 rfl pcS ([⟨((ids[i]:Nat):Int),(rowAt (enc xs k n) ids[i])⟩]:List Pc) 1 (by simp[maxLen]) (by first|exact Nat.le_refl _|simp) (EsP.cons (c:=[.I ((ids[i]:Nat):Int),.slice a16 ((rowAt (enc xs k n) ids[i]).length) c17]) (pc_mk i64a (H.rp 0 rfl)) EsP.nil)
   have H:Hp w S [] [(b20,.cells #[.I ((ids[i]:Nat):Int),.slice a16 ((rowAt (enc xs k n) ids[i]).length) c17] 82 (0,0))] [⟨pcS,82,.slice ao (((psOf xs k n ids).take i).length) co,((psOf xs k n ids).take i)⟩] [Rp (Shape.slice pcS) [.slice (some ⟨b23,0,none⟩) 1 1] ([⟨((ids[i]:Nat):Int),(rowAt (enc xs k n) ids[i])⟩]:List Pc),Rp SB [.slice a16 ((rowAt (enc xs k n) ids[i]).length) c17] (rowAt (enc xs k n) ids[i]),Rp (Shape.slice Shape.str) [.slice a6 ((ids.map (tok (enc xs k n))).length) (c-3)] (ids.map (tok (enc xs k n))),Rp (Shape.slice (Shape.int .i64)) [.slice a4 3 c5] ([(k:Int),(n:Int),((xs.length:Nat):Int)]:List Int),Rp (Shape.slice Shape.str) [.slice a (([digB k,digB n,digB xs.length]++ids.map (tok (enc xs k n))).length) c] ([digB k,digB n,digB xs.length]++ids.map (tok (enc xs k n))),Fz cQ] _:=H
   refine RW.appendW (d:=some 46) (r:=(sq 4 5)) (T:=80) (ty:=80) (e:=82) (m:=2) (by_:=32) (v:=.slice ao (((psOf xs k n ids).take i).length) co) (a2:=(some ⟨b23,0,none⟩)) (l2:=1) (c2:=1) (zs:=((psOf xs k n ids).take (i+1))) (by as_aux_lemma=>kernel_rfl) (by as_aux_lemma=>kernel_rfl) rfl H 0 rfl 0 rfl (psOf_succ hil) (by rw[List.length_take,psOf_len];omega) ?_
   intro a25 c26 w28 H hc27
   have H:Hp w S [] [(b20,.cells #[.I ((ids[i]:Nat):Int),.slice a16 ((rowAt (enc xs k n) ids[i]).length) c17] 82 (0,0))] [⟨pcS,82,.slice a25 (((psOf xs k n ids).take (i+1)).length) c26,((psOf xs k n ids).take (i+1))⟩] [Rp (Shape.slice pcS) [.slice (some ⟨b23,0,none⟩) 1 1] ([⟨((ids[i]:Nat):Int),(rowAt (enc xs k n) ids[i])⟩]:List Pc),Rp SB [.slice a16 ((rowAt (enc xs k n) ids[i]).length) c17] (rowAt (enc xs k n) ids[i]),Rp (Shape.slice Shape.str) [.slice a6 ((ids.map (tok (enc xs k n))).length) (c-3)] (ids.map (tok (enc xs k n))),Rp (Shape.slice (Shape.int .i64)) [.slice a4 3 c5] ([(k:Int),(n:Int),((xs.length:Nat):Int)]:List Int),Rp (Shape.slice Shape.str) [.slice a (([digB k,digB n,digB xs.length]++ids.map (tok (enc xs k n))).length) c] ([digB k,digB n,digB xs.length]++ids.map (tok (enc xs k n))),Fz cQ] _:=H
   refine qF 1 [(6,.slice a4 3 c5),(8,.slice a25 (((psOf xs k n ids).take (i+1)).length) c26),(29,.slice a6 ((ids.map (tok (enc xs k n))).length) (c-3)),(30,.I (((ids.map (tok (enc xs k n))).length:Nat):Int)),(31,.I i)] ?_
   refine qR 1 [.c [5,0,1,0,0,3],.l [5,0,1,0,0],.b 0,.c [6]] [(6,.slice a4 3 c5),(8,.slice a25 (((psOf xs k n ids).take (i+1)).length) c26),(29,.slice a6 ((ids.map (tok (enc xs k n))).length) (c-3)),(30,.I (((ids.map (tok (enc xs k n))).length:Nat):Int)),(31,.I i)] ?_
   have H:=H.dropM 0
   have H:=H.pick [2,3,4,5] rfl
   refine qG (sq 0 2) ?_
   refine qI .seq 47 (sq 1 2) ((i:Int)+1) ?_
   refine qF 1 [(6,.slice a4 3 c5),(8,.slice a25 (((psOf xs k n ids).take (i+1)).length) c26),(29,.slice a6 ((ids.map (tok (enc xs k n))).length) (c-3)),(30,.I (((ids.map (tok (enc xs k n))).length:Nat):Int)),(31,.I ((i:Int)+1))] ?_
   exact WK.back (hback7 ((i+1),a25,c26) _ ⟨H,by omega⟩ (by first|omega|(simp only[];omega))) (by as_aux_lemma=>kernel_rfl)
  ·
   refine qR 2 [.c [6,0],.c [7]] [(6,.slice a4 3 c5),(8,.slice ao (((psOf xs k n ids).take i).length) co)] ?_
   refine WK.draw1 16 [(0,.qui),(1,.qui),(2,.qui),(3,.qui),(4,.qui),(5,.qui),(6,.qui),(7,.qui),(8,.qui),(9,.qui),(10,.chn),(11,.qui),(12,.qui),(13,.qui),(14,.qui),(15,.qui)] [(0,.qui),(1,.qui),(2,.qui),(3,.qui),(4,.qui),(5,.qui),(6,.qui),(7,.qui),(8,.qui),(9,.qui),(10,.chn),(11,.qui),(12,.qui),(13,.qui),(14,.qui),(15,.qui)] Tryz_mixed (by as_aux_lemma=>kernel_rfl) (by as_aux_lemma=>kernel_rfl) (by as_aux_lemma=>kernel_rfl) ?_
   have H:=H.draw
   generalize({w8 with drawn:=w8.drawn+1}:World)=w29 at H⊢
   refine qP 2 [(2,.qui),(3,.qui),(4,.qui),(5,.qui),(6,.qui),(7,.qui),(8,.qui),(9,.qui),(10,.chn),(11,.qui),(12,.qui),(13,.qui),(14,.qui),(15,.qui)] [(6,.slice a4 3 c5),(49,.slice ao (((psOf xs k n ids).take i).length) co),(50,.slice a4 3 c5)] ?_
   have hx30:2<([(k:Int),(n:Int),((xs.length:Nat):Int)]:List Int).length:=by simp
   refine qX .qui 51 [(3,.qui),(4,.qui),(5,.qui),(6,.qui),(7,.qui),(8,.qui),(9,.qui),(10,.chn),(11,.qui),(12,.qui),(13,.qui),(14,.qui),(15,.qui)] 69 3 2 (Shape.int .i64) ((xs.length:Nat):Int) H 1 rfl 2 (by omega) (rfl) ?_
   intro b31 o32 es33 hr34 H
   have hb35:=Shape.i64_bd hr34
   obtain⟨rfl,-⟩:=hr34
   refine qL .qui 52 [(4,.qui),(5,.qui),(6,.qui),(7,.qui),(8,.qui),(9,.qui),(10,.chn),(11,.qui),(12,.qui),(13,.qui),(14,.qui),(15,.qui)] 3 b31 o32 0 (.I ((xs.length:Nat):Int)) (H.fc 0 rfl) ?_
   refine qP 1 [(5,.qui),(6,.qui),(7,.qui),(8,.qui),(9,.qui),(10,.chn),(11,.qui),(12,.qui),(13,.qui),(14,.qui),(15,.qui)] [(6,.slice a4 3 c5),(49,.slice ao (((psOf xs k n ids).take i).length) co),(52,.I ((xs.length:Nat):Int)),(53,.slice a4 3 c5)] ?_
   have hx36:0<([(k:Int),(n:Int),((xs.length:Nat):Int)]:List Int).length:=by simp
   refine qX .qui 54 [(6,.qui),(7,.qui),(8,.qui),(9,.qui),(10,.chn),(11,.qui),(12,.qui),(13,.qui),(14,.qui),(15,.qui)] 69 3 0 (Shape.int .i64) (k:Int) H 2 rfl 0 (by omega) (rfl) ?_
   intro b37 o38 es39 hr40 H
   have hb41:=Shape.i64_bd hr40
   obtain⟨rfl,-⟩:=hr40
   refine qL .qui 55 [(7,.qui),(8,.qui),(9,.qui),(10,.chn),(11,.qui),(12,.qui),(13,.qui),(14,.qui),(15,.qui)] 3 b37 o38 0 (.I k) (H.fc 0 rfl) ?_
   refine qP 1 [(8,.qui),(9,.qui),(10,.chn),(11,.qui),(12,.qui),(13,.qui),(14,.qui),(15,.qui)] [(49,.slice ao (((psOf xs k n ids).take i).length) co),(52,.I ((xs.length:Nat):Int)),(55,.I k),(56,.slice a4 3 c5)] ?_
   have hx42:1<([(k:Int),(n:Int),((xs.length:Nat):Int)]:List Int).length:=by simp
   refine qX .qui 57 [(9,.qui),(10,.chn),(11,.qui),(12,.qui),(13,.qui),(14,.qui),(15,.qui)] 69 3 1 (Shape.int .i64) (n:Int) H 3 rfl 1 (by omega) (rfl) ?_
   intro b43 o44 es45 hr46 H
   have hb47:=Shape.i64_bd hr46
   obtain⟨rfl,-⟩:=hr46
   refine qL .qui 58 [(10,.chn),(11,.qui),(12,.qui),(13,.qui),(14,.qui),(15,.qui)] 3 b43 o44 0 (.I n) (H.fc 0 rfl) ?_
   have H:Hp w S [] [] [] [Rp (Shape.slice pcS) [.slice ao (((psOf xs k n ids).take i).length) co] ((psOf xs k n ids).take i),Fc b43 o44 [.I n],Fc b37 o38 [.I k],Fc b31 o32 [.I ((xs.length:Nat):Int)],Rp (Shape.slice Shape.str) [.slice a6 ((ids.map (tok (enc xs k n))).length) (c-3)] (ids.map (tok (enc xs k n))),Rp (Shape.slice (Shape.int .i64)) [.slice a4 3 c5] ([(k:Int),(n:Int),((xs.length:Nat):Int)]:List Int),Rp (Shape.slice Shape.str) [.slice a (([digB k,digB n,digB xs.length]++ids.map (tok (enc xs k n))).length) c] ([digB k,digB n,digB xs.length]++ids.map (tok (enc xs k n))),Fz cQ] _:=H.freezeW 0 rfl
   have hlk49:k≤(((psOf xs k n ids).take i)).length:=by rw[List.length_take,psOf_len];omega
   refine qK .chn (some 59) (qs [11,12,13,14,15]) 44 #[.slice ao (((psOf xs k n ids).take i).length) co,.I ((xs.length:Nat):Int),.I k,.I n] (decode_ok (S:=Av S w [] (idsOf [] [])) (ps:=((psOf xs k n ids).take i)) (H.rp 0 rfl) (size:=xs.length) (k:=k) (n:=n) (by omega) hk hkn (by omega) (((psOf_of hnd hid).take i).ok hk hkn) hlk49 (any_reg hlk49 hkn (by omega) (((psOf_of hnd hid).take i).ok hk hkn))) ?_
   rintro _ w48 hE52⟨a50,c51,ys54,rfl,hys55,hord56,hr53⟩
   rw[objL_of (((psOf_of hnd hid).take i).perm hys55) hk (by rw[hys55.length_eq];exact hlk49) hkn (by omega)]at hr53⊢
   have H:=H.addN hE52 (F:=Rp SB [.slice a50 xs.length c51] xs) hr53
   refine qF 5 [(13,.slice a50 xs.length c51),(14,.I 0)] ?_
   refine qR 1 [.c [7,0],.c [8]] [(13,.slice a50 xs.length c51),(14,.I 0)] ?_
   have H:=H.pick [0,1,5,6,7,8] rfl
   refine qG (sq 0 7) ?_
   refine qP 1 (sq 1 7) [(14,.I 0),(62,.slice a50 xs.length c51)] ?_
   refine qK .seq (some 63) (sq 2 7) 41 #[.slice a50 xs.length c51] (hex_c (xs:=xs) (H.rp 0 rfl) (by omega)) ?_
   rintro _ w57 hE58 rfl
   have H:=H.ext hE58
   refine RW.readS (κ:=.seq) (d:=some 64) (r:=(sq 3 7)) (s:=semV (Op.stringOp .add (hexB xs) (⟨#[10]⟩:ByteArray))) (v:=.string ((hexB xs)++(⟨#[10]⟩:ByteArray))) (by as_aux_lemma=>kernel_rfl) (fun w' _=>semV_run (run_string_add_sum w' _ _ (one_len (l:=xs.length) rfl (by omega)))) ?_
   refine qP 1 (sq 4 7) [(64,.string ((hexB xs)++(⟨#[10]⟩:ByteArray))),(65,.I 0)] ?_
   refine qK .seq (some 66) (sq 5 7) 42 #[.I 0] (refused_ok (S:=fun _=>True)) ?_
   rintro _ w59 hE60 rfl
   have H:=H.ext hE60
   refine qF 2 [(4,.string ((hexB xs)++(⟨#[10]⟩:ByteArray))),(5,.nilIface)] ?_
   refine qT (.tuple #[.string ((hexB xs)++(⟨#[10]⟩:ByteArray)),.nilIface]) Tryz.func16 ?_
   exact⟨_,rfl,H.done,rfl⟩
end Go.Proofs.YtcafjhnjhhicdaaGreatDoor
