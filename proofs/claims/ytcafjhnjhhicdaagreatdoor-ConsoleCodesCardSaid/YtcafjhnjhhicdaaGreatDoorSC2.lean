import Derived.Test.YtcafjhnjhhicdaaGreatDoorSC1
namespace Go.Proofs.YtcafjhnjhhicdaaGreatDoor
open Go.BX
theorem num_spec{S:Nat→Prop}{w:World}{n:Nat}(hn:n≤1000000):
 Calls Tryz.prog 9 #[.I n] w (Ret fun v w'=>Ext w w'∧v=.string (digB n)):=by
 refine qS (fn:=Tryz.f9) (n:=21) (σ:=[(0,.I n)]) Tryz.func9 ?_
 have H:=Hp.startF (w:=w) (S:=S) (G:=[]) .nil
 refine qR 6 [.c [2,0,0],.b 0,.c [3]] [(0,.I n),(3,.string (⟨#[]⟩:ByteArray))] ?_
 refine WK.loop (α:=Nat×ByteArray) (b:=cd Tryz.prog 9 [2,0,0,0]) (by as_aux_lemma=>kernel_rfl) (fun st_=>match st_ with|(i,s)=>[(0,.I i),(3,.string s)]) (fun st_ w'=>match st_ with|(i,s)=>Hp w S [] [] [] [] w'∧i≤n∧NumI n i s) (fun st_=>match st_ with|(i,s)=>2*i+(if s.size=0 then 1 else 0)) (n,(⟨#[]⟩:ByteArray)) ⟨H,Nat.le_refl _,.inl ⟨rfl,rfl⟩⟩ (rfl) ?_
 rintro⟨i,s⟩w2⟨H,hinv0⟩hback1
 have hs7:=hinv0.2.sz hn
 refine qR 2 [.c [2,0,0,0,0,0],.c [2,0,0,0,0,1],.c [2,0,0,0,1],.l [2,0,0,0],.b 0,.c [3]] [(0,.I i),(3,.string s)] ?_
 refine qG (sq 0 6) ?_
 refine qP 3 (sq 3 6) [(0,.I i),(3,.string s),(6,.bool (decide (((i:Int):Int)>0)))] ?_
 refine tD (fun b_=>[(0,.I i),(3,.string s),(6,.bool b_)]) (((i:Int):Int)>0) (fun h3=>?_) (fun h3=>?_)
 ·
  refine qF 3 [(0,.I i),(3,.string s),(9,.bool true)] ?_
  refine qR 4 [.c [2,0,0,0,1,0,0],.c [2,0,0,0,1,0,1],.b 1,.l [2,0,0,0],.b 0,.c [3]] [(0,.I i),(3,.string s)] ?_
  refine qG (sq 0 9) ?_
  refine qP 1 (sq 1 9) [(0,.I i),(3,.string s),(10,.I i)] ?_
  refine RW.pv (κ:=.seq) (d:=some 11) (r:=(sq 2 9)) (v:=.I ((i:Int).tmod 10)) (v':=.I ((i:Int)%10)) (by as_aux_lemma=>kernel_rfl) (rem_id (by omega)) ?_
  refine qI .seq 12 (sq 3 9) (48+((i:Int)%10)) ?_
  refine RW.pv (κ:=.seq) (d:=some 13) (r:=(sq 4 9)) (v:=.int .u8 (IntKind.u8.wrap (48+((i:Int)%10)))) (v':=.int .u8 (((BitVec.ofInt 8 (48+((i:Int)%10))).toNat:Nat):Int)) (by as_aux_lemma=>kernel_rfl) (wrap_bv8 _) ?_
  refine RW.new (κ:=.seq) (d:=some 14) (r:=(sq 5 9)) (o:=.cells #[.int .u8 (((BitVec.ofInt 8 (48+((i:Int)%10))).toNat:Nat):Int)] 5 (0,0)) (v:=fun b=>.slice (some ⟨b,0,none⟩) 1 1) (fun b=>by as_aux_lemma=>kernel_rfl) (nofun) H ?_
  intro b4 w5 H
  have H:=H.freeze 0 rfl Sb ([BitVec.ofInt 8 (48+((i:Int)%10))]:List (BitVec 8)) 1 (by simp[maxLen]) (by first|exact Nat.le_refl _|simp) (EsP.cons (c:=[.int .u8 (((BitVec.ofInt 8 (48+((i:Int)%10))).toNat:Nat):Int)]) Shape.bv_mk EsP.nil)
  have H:Hp w S [] [] [] [Rp SB [.slice (some ⟨b4,0,none⟩) 1 1] ([BitVec.ofInt 8 (48+((i:Int)%10))]:List (BitVec 8))] _:=H
  refine RW.toStr (κ:=.seq) (d:=some 15) (r:=(sq 6 9)) (Ts:=28) (Td:=9) 5 (a:=(some ⟨b4,0,none⟩)) (len:=1) (cap:=1) (xs:=([BitVec.ofInt 8 (48+((i:Int)%10))]:List (BitVec 8))) (by as_aux_lemma=>kernel_rfl) (by as_aux_lemma=>kernel_rfl) (H.rp 0 rfl) ?_
  refine qP 1 (sq 7 9) [(0,.I i),(3,.string s),(15,.string (strOf ([BitVec.ofInt 8 (48+((i:Int)%10))]:List (BitVec 8)))),(16,.string s)] ?_
  refine RW.readS (κ:=.seq) (d:=some 17) (r:=(sq 8 9)) (s:=semV (Op.stringOp .add (strOf ([BitVec.ofInt 8 (48+((i:Int)%10))]:List (BitVec 8))) s)) (v:=.string ((strOf ([BitVec.ofInt 8 (48+((i:Int)%10))]:List (BitVec 8)))++s)) (by as_aux_lemma=>kernel_rfl) (fun w' _=>semV_run (run_string_add_sum w' _ _ (num_len hs7))) ?_
  refine qF 1 [(0,.I i),(3,.string ((strOf ([BitVec.ofInt 8 (48+((i:Int)%10))]:List (BitVec 8)))++s))] ?_
  refine qG (sq 0 3) ?_
  refine qP 1 (sq 1 3) [(0,.I i),(3,.string ((strOf ([BitVec.ofInt 8 (48+((i:Int)%10))]:List (BitVec 8)))++s)),(18,.I i)] ?_
  refine RW.pv (κ:=.seq) (d:=some 19) (r:=(sq 2 3)) (v:=.I (IntKind.i64.wrap ((i:Int).tdiv 10))) (v':=.I ((i:Int)/10)) (by as_aux_lemma=>kernel_rfl) (quo_i64 (by decide) (by omega)) ?_
  refine qF 1 [(0,.I ((i:Int)/10)),(3,.string ((strOf ([BitVec.ofInt 8 (48+((i:Int)%10))]:List (BitVec 8)))++s))] ?_
  refine qR 1 [.l [2,0,0,0],.b 0,.c [3]] [(0,.I ((i:Int)/10)),(3,.string ((strOf ([BitVec.ofInt 8 (48+((i:Int)%10))]:List (BitVec 8)))++s))] ?_
  have H:=H.pick [] rfl
  exact WK.back (hback1 ((i/10),(strOf ([BitVec.ofInt 8 (48+((i:Int)%10))]:List (BitVec 8)))++s) _ ⟨H,by omega,hinv0.2.step (by first|exact .inl (by omega)|exact .inr (by assumption)) rfl⟩ (num_meas (by first|exact .inl (by omega)|exact .inr (by assumption)))) (by as_aux_lemma=>kernel_rfl)
 ·
  refine qF 3 [(0,.I i),(3,.string s),(9,.bool (s.toList==(⟨#[]⟩:ByteArray).toList))] ?_
  refine qE s.toList ((⟨#[]⟩:ByteArray).toList) (fun h6=>?_) (fun h6=>?_)
  ·
   refine qR 3 [.c [2,0,0,0,1,0,0],.c [2,0,0,0,1,0,1],.b 1,.l [2,0,0,0],.b 0,.c [3]] [(0,.I i),(3,.string s)] ?_
   refine qG (sq 0 9) ?_
   refine qP 1 (sq 1 9) [(0,.I i),(3,.string s),(10,.I i)] ?_
   refine RW.pv (κ:=.seq) (d:=some 11) (r:=(sq 2 9)) (v:=.I ((i:Int).tmod 10)) (v':=.I ((i:Int)%10)) (by as_aux_lemma=>kernel_rfl) (rem_id (by omega)) ?_
   refine qI .seq 12 (sq 3 9) (48+((i:Int)%10)) ?_
   refine RW.pv (κ:=.seq) (d:=some 13) (r:=(sq 4 9)) (v:=.int .u8 (IntKind.u8.wrap (48+((i:Int)%10)))) (v':=.int .u8 (((BitVec.ofInt 8 (48+((i:Int)%10))).toNat:Nat):Int)) (by as_aux_lemma=>kernel_rfl) (wrap_bv8 _) ?_
   refine RW.new (κ:=.seq) (d:=some 14) (r:=(sq 5 9)) (o:=.cells #[.int .u8 (((BitVec.ofInt 8 (48+((i:Int)%10))).toNat:Nat):Int)] 5 (0,0)) (v:=fun b=>.slice (some ⟨b,0,none⟩) 1 1) (fun b=>by as_aux_lemma=>kernel_rfl) (nofun) H ?_
   intro b7 w8 H
   have H:=H.freeze 0 rfl Sb ([BitVec.ofInt 8 (48+((i:Int)%10))]:List (BitVec 8)) 1 (by simp[maxLen]) (by first|exact Nat.le_refl _|simp) (EsP.cons (c:=[.int .u8 (((BitVec.ofInt 8 (48+((i:Int)%10))).toNat:Nat):Int)]) Shape.bv_mk EsP.nil)
   have H:Hp w S [] [] [] [Rp SB [.slice (some ⟨b7,0,none⟩) 1 1] ([BitVec.ofInt 8 (48+((i:Int)%10))]:List (BitVec 8))] _:=H
   refine RW.toStr (κ:=.seq) (d:=some 15) (r:=(sq 6 9)) (Ts:=28) (Td:=9) 5 (a:=(some ⟨b7,0,none⟩)) (len:=1) (cap:=1) (xs:=([BitVec.ofInt 8 (48+((i:Int)%10))]:List (BitVec 8))) (by as_aux_lemma=>kernel_rfl) (by as_aux_lemma=>kernel_rfl) (H.rp 0 rfl) ?_
   refine qP 1 (sq 7 9) [(0,.I i),(3,.string s),(15,.string (strOf ([BitVec.ofInt 8 (48+((i:Int)%10))]:List (BitVec 8)))),(16,.string s)] ?_
   refine RW.readS (κ:=.seq) (d:=some 17) (r:=(sq 8 9)) (s:=semV (Op.stringOp .add (strOf ([BitVec.ofInt 8 (48+((i:Int)%10))]:List (BitVec 8))) s)) (v:=.string ((strOf ([BitVec.ofInt 8 (48+((i:Int)%10))]:List (BitVec 8)))++s)) (by as_aux_lemma=>kernel_rfl) (fun w' _=>semV_run (run_string_add_sum w' _ _ (num_len hs7))) ?_
   refine qF 1 [(0,.I i),(3,.string ((strOf ([BitVec.ofInt 8 (48+((i:Int)%10))]:List (BitVec 8)))++s))] ?_
   refine qG (sq 0 3) ?_
   refine qP 1 (sq 1 3) [(0,.I i),(3,.string ((strOf ([BitVec.ofInt 8 (48+((i:Int)%10))]:List (BitVec 8)))++s)),(18,.I i)] ?_
   refine RW.pv (κ:=.seq) (d:=some 19) (r:=(sq 2 3)) (v:=.I (IntKind.i64.wrap ((i:Int).tdiv 10))) (v':=.I ((i:Int)/10)) (by as_aux_lemma=>kernel_rfl) (quo_i64 (by decide) (by omega)) ?_
   refine qF 1 [(0,.I ((i:Int)/10)),(3,.string ((strOf ([BitVec.ofInt 8 (48+((i:Int)%10))]:List (BitVec 8)))++s))] ?_
   refine qR 1 [.l [2,0,0,0],.b 0,.c [3]] [(0,.I ((i:Int)/10)),(3,.string ((strOf ([BitVec.ofInt 8 (48+((i:Int)%10))]:List (BitVec 8)))++s))] ?_
   have H:=H.pick [] rfl
   exact WK.back (hback1 ((i/10),(strOf ([BitVec.ofInt 8 (48+((i:Int)%10))]:List (BitVec 8)))++s) _ ⟨H,by omega,hinv0.2.step (by first|exact .inl (by omega)|exact .inr (by assumption)) rfl⟩ (num_meas (by first|exact .inl (by omega)|exact .inr (by assumption)))) (by as_aux_lemma=>kernel_rfl)
  ·
   refine qR 3 [.c [4]] [(2,.string s)] ?_
   refine qT (.string s) Tryz.func9 ?_
   exact⟨_,rfl,H.done,by rw[hinv0.2.fin (by omega) (by assumption)]⟩
theorem bytes_some{S:Nat→Prop}{w:World}{xs:List (BitVec 8)}(hx:xs.length≠0)(hxl:xs.length≤1000000):
 Calls Tryz.prog 39 #[.string (hexS xs)] w (Ret fun v w'=>Ext w w'∧∃(a':Option Addr)(c':Nat),v=.tuple #[.slice a' xs.length c',.nilIface]∧Hp w S [] [] [⟨Sb,5,.slice a' xs.length c',xs⟩] [] w'):=by
 have hsz:(hexS xs).size=2*xs.length:=hexS_size xs
 refine qS (fn:=Tryz.f39) (n:=51) (σ:=[(0,.string (hexS xs))]) Tryz.func39 ?_
 have H:=Hp.startF (w:=w) (S:=S) (G:=[]) .nil
 refine qR 5 [.c [1,0,1],.c [2]] [(0,.string (hexS xs)),(9,.bool ((hexS xs).toList==(⟨#[45]⟩:ByteArray).toList))] ?_
 refine qE ((hexS xs).toList) ((⟨#[45]⟩:ByteArray).toList) (fun h1=>?_) (fun h1=>?_)
 ·
  exact(hex_ne hx h1).elim
 ·
  refine qR 7 [.c [3,0,1,0],.b 0,.c [4]] [(0,.string (hexS xs)),(4,.slice none 0 0),(5,.I 0)] ?_
  have H:=H.ownNil Sb 5
  refine WK.loop (α:=Nat×Option Addr×Nat) (b:=cd Tryz.prog 39 [3,0,1,0,0]) (by as_aux_lemma=>kernel_rfl) (fun st_=>match st_ with|(j,ao,co)=>[(0,.string (hexS xs)),(4,.slice ao (xs.take j).length co),(5,.I (2*(j:Int)))]) (fun st_ w'=>match st_ with|(j,ao,co)=>Hp w S [] [] [⟨Sb,5,.slice ao (xs.take j).length co,xs.take j⟩] [] w'∧j≤xs.length) (fun st_=>match st_ with|(j,ao,co)=>xs.length-j) (0,none,0) ⟨H,Nat.zero_le _⟩ (rfl) ?_
  rintro⟨j,ao,co⟩w3⟨H,hinv0⟩hback2
  have hzl:(xs.take j).length=j:=by rw[List.length_take];omega
  refine qR 2 [.c [3,0,1,0,0,0,0],.c [3,0,1,0,0,0,1],.c [3,0,1,0,0,1],.l [3,0,1,0,0],.b 0,.c [4]] [(0,.string (hexS xs)),(4,.slice ao (xs.take j).length co),(5,.I (2*(j:Int)))] ?_
  refine qG (sq 0 5) ?_
  refine qP 1 (sq 1 5) [(0,.string (hexS xs)),(4,.slice ao (xs.take j).length co),(5,.I (2*(j:Int))),(10,.I (2*(j:Int)))] ?_
  refine qI .seq 11 (sq 2 5) ((2*(j:Int))+1) ?_
  refine qF 3 [(0,.string (hexS xs)),(4,.slice ao (xs.take j).length co),(5,.I (2*(j:Int))),(14,.bool (decide (((2*(j:Int))+1:Int)<(((hexS xs).size:Nat):Int))))] ?_
  refine qD (((2*(j:Int))+1:Int)<(((hexS xs).size:Nat):Int)) (fun h4=>?_) (fun h4=>?_)
  ·
   have hjl:j<xs.length:=by omega
   refine qR 4 [.c [3,0,1,0,0,1,0,0,0],.c [3,0,1,0,0,1,0,0,1],.b 1,.c [3,0,1,0,0,2],.l [3,0,1,0,0],.b 0,.c [4]] [(0,.string (hexS xs)),(4,.slice ao (xs.take j).length co),(5,.I (2*(j:Int)))] ?_
   refine WK.draw1 11 [(0,.qui),(1,.qui),(2,.qui),(4,.qui),(5,.qui),(6,.qui),(7,.qui),(3,.chn),(8,.chn),(9,.qui),(10,.qui)] [(0,.qui),(1,.qui),(2,.qui),(4,.qui),(5,.qui),(6,.qui),(7,.qui),(3,.chn),(8,.chn),(9,.qui),(10,.qui)] Tryz_mixed (by as_aux_lemma=>kernel_rfl) (by as_aux_lemma=>kernel_rfl) (by as_aux_lemma=>kernel_rfl) ?_
   have H:=H.draw
   generalize({w3 with drawn:=w3.drawn+1}:World)=w5 at H⊢
   refine qP 2 [(2,.qui),(4,.qui),(5,.qui),(6,.qui),(7,.qui),(3,.chn),(8,.chn),(9,.qui),(10,.qui)] [(0,.string (hexS xs)),(4,.slice ao (xs.take j).length co),(5,.I (2*(j:Int))),(17,.string (hexS xs)),(18,.I (2*(j:Int)))] ?_
   refine RW.strCh (κ:=.qui) (d:=some 19) (r:=[(4,.qui),(5,.qui),(6,.qui),(7,.qui),(3,.chn),(8,.chn),(9,.qui),(10,.qui)]) (T:=9) (s:=(hexS xs)) (k:=.i64) (t:=(2*(j:Int))) (2*j) (nib (xs[j]>>>4).toNat) (by as_aux_lemma=>kernel_rfl) (by as_aux_lemma=>kernel_rfl) (by omega) (hexL_hi (List.getElem?_eq_getElem hjl)) ?_
   refine qP 2 [(6,.qui),(7,.qui),(3,.chn),(8,.chn),(9,.qui),(10,.qui)] [(0,.string (hexS xs)),(4,.slice ao (xs.take j).length co),(5,.I (2*(j:Int))),(19,.int .u8 (((nib (xs[j]>>>4).toNat).toNat:Nat):Int)),(21,.string (hexS xs)),(22,.I (2*(j:Int)))] ?_
   refine qI .qui 23 [(7,.qui),(3,.chn),(8,.chn),(9,.qui),(10,.qui)] ((2*(j:Int))+1) ?_
   refine RW.strCh (κ:=.qui) (d:=some 24) (r:=[(3,.chn),(8,.chn),(9,.qui),(10,.qui)]) (T:=9) (s:=(hexS xs)) (k:=.i64) (t:=(2*(j:Int))+1) (2*j+1) (nib (xs[j]&&&15#8).toNat) (by as_aux_lemma=>kernel_rfl) (by as_aux_lemma=>kernel_rfl) (by omega) (hexL_lo (List.getElem?_eq_getElem hjl)) ?_
   refine qK .chn (some 20) [(8,.chn),(9,.qui),(10,.qui)] 68 #[.string (⟨#[48,49,50,51,52,53,54,55,56,57,97,98,99,100,101,102]⟩:ByteArray),.int .u8 (((nib (xs[j]>>>4).toNat).toNat:Nat):Int)] (hexat_n (n:=(xs[j]>>>4).toNat) (hi_lt _)) ?_
   rintro _ w6 hE7 rfl
   have H:=H.ext hE7
   refine qK .chn (some 25) (qs [9,10]) 68 #[.string (⟨#[48,49,50,51,52,53,54,55,56,57,97,98,99,100,101,102]⟩:ByteArray),.int .u8 (((nib (xs[j]&&&15#8).toNat).toNat:Nat):Int)] (hexat_n (n:=(xs[j]&&&15#8).toNat) (lo_lt _)) ?_
   rintro _ w8 hE9 rfl
   have H:=H.ext hE9
   refine qF 2 [(0,.string (hexS xs)),(4,.slice ao (xs.take j).length co),(5,.I (2*(j:Int))),(6,.I (((xs[j]>>>4).toNat:Nat):Int)),(7,.I (((xs[j]&&&15#8).toNat:Nat):Int))] ?_
   refine qR 2 [.c [3,0,1,0,0,1,0,0,1,0,0],.c [3,0,1,0,0,1,0,0,1,0,1],.c [3,0,1,0,0,1,0,0,2],.b 1,.c [3,0,1,0,0,2],.l [3,0,1,0,0],.b 0,.c [4]] [(0,.string (hexS xs)),(4,.slice ao (xs.take j).length co),(5,.I (2*(j:Int))),(6,.I (((xs[j]>>>4).toNat:Nat):Int)),(7,.I (((xs[j]&&&15#8).toNat:Nat):Int))] ?_
   refine qG (sq 0 6) ?_
   refine qP 3 (sq 3 6) [(0,.string (hexS xs)),(4,.slice ao (xs.take j).length co),(5,.I (2*(j:Int))),(6,.I (((xs[j]>>>4).toNat:Nat):Int)),(7,.I (((xs[j]&&&15#8).toNat:Nat):Int)),(28,.bool (decide (((((xs[j]>>>4).toNat:Nat):Int):Int)<0)))] ?_
   refine tD (fun b_=>[(0,.string (hexS xs)),(4,.slice ao (xs.take j).length co),(5,.I (2*(j:Int))),(6,.I (((xs[j]>>>4).toNat:Nat):Int)),(7,.I (((xs[j]&&&15#8).toNat:Nat):Int)),(28,.bool b_)]) (((((xs[j]>>>4).toNat:Nat):Int):Int)<0) (fun h10=>?_) (fun h10=>?_)
   ·
    omega
   ·
    refine qF 3 [(0,.string (hexS xs)),(4,.slice ao (xs.take j).length co),(5,.I (2*(j:Int))),(6,.I (((xs[j]>>>4).toNat:Nat):Int)),(7,.I (((xs[j]&&&15#8).toNat:Nat):Int)),(31,.bool (decide (((((xs[j]&&&15#8).toNat:Nat):Int):Int)<0)))] ?_
    refine qD (((((xs[j]&&&15#8).toNat:Nat):Int):Int)<0) (fun h11=>?_) (fun h11=>?_)
    ·
     omega
    ·
     refine qR 1 [.c [3,0,1,0,0,1,0,0,2],.b 1,.c [3,0,1,0,0,2],.l [3,0,1,0,0],.b 0,.c [4]] [(0,.string (hexS xs)),(4,.slice ao (xs.take j).length co),(5,.I (2*(j:Int))),(6,.I (((xs[j]>>>4).toNat:Nat):Int)),(7,.I (((xs[j]&&&15#8).toNat:Nat):Int))] ?_
     refine qG (sq 0 9) ?_
     refine qP 2 (sq 2 9) [(0,.string (hexS xs)),(4,.slice ao (xs.take j).length co),(5,.I (2*(j:Int))),(7,.I (((xs[j]&&&15#8).toNat:Nat):Int)),(33,.slice ao (xs.take j).length co),(34,.I (((xs[j]>>>4).toNat:Nat):Int))] ?_
     refine RW.pv (κ:=.seq) (d:=some 35) (r:=(sq 3 9)) (v:=.I (IntKind.i64.wrap ((((xs[j]>>>4).toNat:Nat):Int)*2^4))) (v':=.I ((((xs[j]>>>4).toNat:Nat):Int)*16)) (by as_aux_lemma=>kernel_rfl) (shl_i64 (by decide) (by omega)) ?_
     refine qP 1 (sq 4 9) [(0,.string (hexS xs)),(4,.slice ao (xs.take j).length co),(5,.I (2*(j:Int))),(33,.slice ao (xs.take j).length co),(35,.I ((((xs[j]>>>4).toNat:Nat):Int)*16)),(36,.I (((xs[j]&&&15#8).toNat:Nat):Int))] ?_
     refine RW.pv (κ:=.seq) (d:=some 37) (r:=(sq 5 9)) (v:=.I (IntKind.i64.wrap ((BitVec.ofInt 64 ((((xs[j]>>>4).toNat:Nat):Int)*16)|||BitVec.ofInt 64 (((xs[j]&&&15#8).toNat:Nat):Int)).toNat:Nat))) (v':=.I ((xs[j].toNat:Nat):Int)) (by as_aux_lemma=>kernel_rfl) (congrArg (Value.int .i64) (or_nib xs[j])) ?_
     refine RW.pv (κ:=.seq) (d:=some 38) (r:=(sq 6 9)) (v:=.int .u8 (IntKind.u8.wrap (((xs[j].toNat:Nat):Int)))) (v':=.int .u8 (((BitVec.ofNat 8 (xs[j].toNat)).toNat:Nat):Int)) (by as_aux_lemma=>kernel_rfl) ((wrap_bv8 _).trans (by rw[bv_nat])) ?_
     refine RW.new (κ:=.seq) (d:=some 39) (r:=(sq 7 9)) (o:=.cells #[.int .u8 (((BitVec.ofNat 8 (xs[j].toNat)).toNat:Nat):Int)] 5 (0,0)) (v:=fun b=>.slice (some ⟨b,0,none⟩) 1 1) (fun b=>by as_aux_lemma=>kernel_rfl) (nofun) H ?_
     intro b12 w13 H
     have H:=H.freeze 0 rfl Sb ([BitVec.ofNat 8 (xs[j].toNat)]:List (BitVec 8)) 1 (by simp[maxLen]) (by first|exact Nat.le_refl _|simp) (EsP.cons (c:=[.int .u8 (((BitVec.ofNat 8 (xs[j].toNat)).toNat:Nat):Int)]) Shape.bv_mk EsP.nil)
     have H:Hp w S [] [] [⟨Sb,5,.slice ao (xs.take j).length co,xs.take j⟩] [Rp SB [.slice (some ⟨b12,0,none⟩) 1 1] ([BitVec.ofNat 8 (xs[j].toNat)]:List (BitVec 8))] _:=H
     refine RW.appendW (d:=some 40) (r:=(sq 8 9)) (T:=28) (ty:=28) (e:=5) (m:=1) (by_:=1) (v:=.slice ao (xs.take j).length co) (a2:=(some ⟨b12,0,none⟩)) (l2:=1) (c2:=1) (zs:=(xs.take (j+1))) (by as_aux_lemma=>kernel_rfl) (by as_aux_lemma=>kernel_rfl) rfl H 0 rfl 0 rfl (take_nib (List.getElem?_eq_getElem hjl)) (by rw[List.length_take];omega) ?_
     intro a14 c15 w17 H hc16
     have H:Hp w S [] [] [⟨Sb,5,.slice a14 ((xs.take (j+1)).length) c15,(xs.take (j+1))⟩] [Rp SB [.slice (some ⟨b12,0,none⟩) 1 1] ([BitVec.ofNat 8 (xs[j].toNat)]:List (BitVec 8))] _:=H
     refine qF 1 [(0,.string (hexS xs)),(4,.slice a14 ((xs.take (j+1)).length) c15),(5,.I (2*(j:Int)))] ?_
     refine qR 1 [.c [3,0,1,0,0,2],.l [3,0,1,0,0],.b 0,.c [4]] [(0,.string (hexS xs)),(4,.slice a14 ((xs.take (j+1)).length) c15),(5,.I (2*(j:Int)))] ?_
     refine qG (sq 0 3) ?_
     refine qP 1 (sq 1 3) [(0,.string (hexS xs)),(4,.slice a14 ((xs.take (j+1)).length) c15),(5,.I (2*(j:Int))),(15,.I (2*(j:Int)))] ?_
     refine qI .seq 16 (sq 2 3) ((2*(j:Int))+2) ?_
     refine qF 1 [(0,.string (hexS xs)),(4,.slice a14 ((xs.take (j+1)).length) c15),(5,.I ((2*(j:Int))+2))] ?_
     have H:=H.pick [] rfl
     exact WK.back (hback2 ((j+1),a14,c15) _ ⟨H,by omega⟩ (by first|omega|(simp only[];omega))) (by as_aux_lemma=>kernel_rfl)
  ·
   refine qR 3 [.c [4,0,0],.c [4,0,1],.c [5]] [(0,.string (hexS xs)),(4,.slice ao (xs.take j).length co)] ?_
   refine qG (sq 0 8) ?_
   refine qP 3 (sq 3 8) [(0,.string (hexS xs)),(4,.slice ao (xs.take j).length co),(43,.bool ((hexS xs).toList==(⟨#[]⟩:ByteArray).toList))] ?_
   refine tE (fun b_=>[(0,.string (hexS xs)),(4,.slice ao (xs.take j).length co),(43,.bool b_)]) ((hexS xs).toList) ((⟨#[]⟩:ByteArray).toList) (fun h18=>?_) (fun h18=>?_)
   ·
    exact(hexS_ne hx h18).elim
   ·
    refine qP 2 (sq 5 8) [(4,.slice ao (xs.take j).length co),(43,.bool false),(45,.I (((hexS xs).size:Nat):Int))] ?_
    refine RW.pv (κ:=.seq) (d:=some 46) (r:=(sq 6 8)) (v:=.I ((((hexS xs).size:Nat):Int).tmod 2)) (v':=.I ((((hexS xs).size:Nat):Int)%2)) (by as_aux_lemma=>kernel_rfl) (rem_id (by omega)) ?_
    refine qF 2 [(4,.slice ao (xs.take j).length co),(48,.bool (decide (((((hexS xs).size:Nat):Int)%2:Int)>0)))] ?_
    refine qD (((((hexS xs).size:Nat):Int)%2:Int)>0) (fun h19=>?_) (fun h19=>?_)
    ·
     omega
    ·
     refine qR 3 [.c [6]] [(2,.slice ao (xs.take j).length co),(3,.nilIface)] ?_
     refine qT (.tuple #[.slice ao (xs.take j).length co,.nilIface]) Tryz.func39 ?_
     have hie:j=xs.length:=by omega
     rw[hie,List.take_of_length_le (Nat.le_refl _)]at H
     rw[hie,List.take_of_length_le (Nat.le_refl _)]
     exact⟨_,rfl,H.done,_,_,rfl,H.pick [] rfl⟩
end Go.Proofs.YtcafjhnjhhicdaaGreatDoor
