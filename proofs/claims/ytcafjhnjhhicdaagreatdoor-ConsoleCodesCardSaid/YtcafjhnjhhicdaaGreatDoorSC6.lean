import Derived.Test.YtcafjhnjhhicdaaGreatDoorSC5
namespace Go.Proofs.YtcafjhnjhhicdaaGreatDoor
open Go.BX
open Go.RowKit Go.Shelf
def hz(l:Nat):Nat:=if l=0 then 1 else 2*l
theorem hz_le{l:Nat}(h:l≤200):hz l+1≤402:=by
 unfold hz
 split<;>omega
theorem lit8(c:UInt8):((c.toNat:Nat):Int)=(((BitVec.ofInt 8 ((c.toNat:Nat):Int)).toNat:Nat):Int):=by
 have:=c.toNat_lt
 rw[BitVec.toNat_ofInt]
 omega
theorem hexB_hz(xs:List (BitVec 8)):(hexB xs).size=hz xs.length:=hexB_size xs
def lineB(x:List (BitVec 8)):List UInt8:=(hexB x).data.toList++[10]
theorem line_len(x:List (BitVec 8)):(lineB x).length=hz x.length+1:=by
 unfold lineB
 rw[List.length_append,←size_data,hexB_hz];rfl
theorem foldl_outB(rows:List (List (BitVec 8))):∀s:ByteArray,(rows.foldl (fun s x=>s++(hexB x++nlB)) s).data.toList=s.data.toList++rows.flatMap lineB:=by
 induction rows with
 |nil=>intro s;exact(List.append_nil _).symm
 |cons a r ih=>
  intro s
  rw[List.foldl_cons,ih,app_data,app_data,List.flatMap_cons,List.append_assoc]
  rfl
theorem outB_data(rows:List (List (BitVec 8))):(outB rows).data.toList=rows.flatMap lineB:=by
 unfold outB
 rw[foldl_outB];rfl
theorem lines_len{l:Nat}:∀{rows:List (List (BitVec 8))},(∀x∈rows,x.length=l)→(rows.flatMap lineB).length=rows.length*(hz l+1)
 |[],_=>(Nat.zero_mul _).symm
 |a::r,h=>by
  rw[List.flatMap_cons,List.length_append,lines_len fun x hx=>h x (List.mem_cons_of_mem _ hx),line_len,h a (List.mem_cons_self ..),List.length_cons,Nat.succ_mul,Nat.add_comm]
theorem outB_size{rows:List (List (BitVec 8))}{l:Nat}(h:∀x∈rows,x.length=l):(outB rows).size=rows.length*(hz l+1):=by
 rw[size_data,outB_data,lines_len h]
theorem out_split{rows:List (List (BitVec 8))}{l r:Nat}(h:∀x∈rows,x.length=l)(hr:r<rows.length):∃A B:List UInt8,A.length=r*(hz l+1)∧(hexB rows[r]).data.toList.length=hz l∧(outB rows).data.toList=A++((hexB rows[r]).data.toList++10::B):=by
 refine⟨(rows.take r).flatMap lineB,(rows.drop (r+1)).flatMap lineB,?_,?_,?_⟩
 ·rw[lines_len fun x hx=>h x (List.mem_of_mem_take hx),List.length_take,Nat.min_eq_left (by omega)]
 ·rw[←size_data,hexB_hz,h _ (List.getElem_mem hr)]
 · have e : rows = rows.take r++rows[r]::rows.drop (r+1):=by
    rw[←List.drop_eq_getElem_cons hr,List.take_append_drop]
   rw[outB_data]
   conv=>lhs;rw[e]
   rw[List.flatMap_append,List.flatMap_cons]
   unfold lineB
   rw[List.append_assoc];rfl
theorem out_byte{rows:List (List (BitVec 8))}{l r j:Nat}(h:∀x∈rows,x.length=l)(hr:r<rows.length)(hj:j≤hz l):∃c:UInt8,(outB rows).data.toList[r*(hz l+1)+j]?=some c∧(((c.toNat:Nat):Int)=10↔j=hz l):=by
 obtain⟨A,B,hA,hX,e⟩:=out_split h hr
 rw[e,←hA,List.getElem?_append_right (by omega),Nat.add_sub_cancel_left]
 by_cases h1 : j = hz l
 · refine⟨10, ?_,?_⟩
   ·rw[h1,←hX,List.getElem?_append_right (Nat.le_refl _),Nat.sub_self];rfl
   ·exact⟨fun _=>h1,fun _=>rfl⟩
 · have hl : j < (hexB rows[r]).data.toList.length := by omega
   refine⟨(hexB rows[r]).data.toList[j], ?_, ?_⟩
   · rw[List.getElem?_append_left hl, List.getElem?_eq_getElem hl]
   · refine⟨fun hc=>absurd ?_ (hexB_ne _ _ (List.getElem_mem hl)).2.2,fun hc=>absurd hc h1⟩
     refine UInt8.toNat_inj.1 ?_
     have:(10:UInt8).toNat=10:=rfl
     omega
theorem out_sub{rows:List (List (BitVec 8))}{l r p:Nat}(h:∀x∈rows,x.length=l)(hr:r<rows.length)(hp:p=r*(hz l+1)):(outB rows).extract p (p+hz l)=hexB (rowAt rows r):=by
 obtain⟨A,B,hA,hX,e⟩:=out_split h hr
 rw[rowAt_eq hr]
 apply data_inj
 rw[ByteArray.data_extract,Array.toList_extract,List.extract_eq_take_drop,e,hp,←hA,List.drop_left,Nat.add_sub_cancel_left,←hX,List.take_left]
def fI(k r:Nat):List Nat:=List.range (min r k)
def lI(m r:Nat):List Nat:=((List.range r).drop m).reverse
theorem fI_in{k r:Nat}(h:r<k):fI k (r+1)=fI k r++[r]:=by
 unfold fI
 rw[Nat.min_eq_left (by omega),Nat.min_eq_left (by omega),List.range_succ]
theorem fI_out{k r:Nat}(h:¬r<k):fI k (r+1)=fI k r:=by
 unfold fI
 rw[Nat.min_eq_right (by omega),Nat.min_eq_right (by omega)]
theorem lI_in{m r:Nat}(h:m≤r):lI m (r+1)=r::lI m r:=by
 unfold lI
 rw[List.range_succ,List.drop_append_of_le_length (by rw[List.length_range];exact h),List.reverse_append];rfl
theorem lI_out{m r:Nat}(h:¬m≤r):lI m (r+1)=lI m r:=by
 unfold lI
 rw[List.drop_of_length_le (by rw[List.length_range];omega),List.drop_of_length_le (by rw[List.length_range];omega)]
theorem fI_len{k n:Nat}(h:k≤n):(fI k n).length=k:=by
 unfold fI
 rw[List.length_range,Nat.min_eq_right h]
theorem lI_len{k n:Nat}(h:k≤n):(lI (n-k) n).length=k:=by
 unfold lI
 rw[List.length_reverse,List.length_drop,List.length_range]
 omega
theorem fI_nd(k n:Nat):(fI k n).Nodup:=List.nodup_range
theorem lI_nd(m n:Nat):(lI m n).Nodup:=(List.reverse_perm _).nodup_iff.2 ((List.drop_sublist _ _).nodup List.nodup_range)
theorem fI_lt{k n:Nat}:∀i∈fI k n,i<n:=fun i hi=>by
 have:=List.mem_range.1 hi
 omega
theorem lI_lt{m n:Nat}:∀i∈lI m n,i<n:=fun i hi=>List.mem_range.1 (List.mem_of_mem_drop (List.mem_reverse.1 hi))
theorem fI_le(k r:Nat):(fI k r).length≤r:=by
 unfold fI
 rw[List.length_range];omega
theorem lI_le(m r:Nat):(lI m r).length≤r:=by
 unfold lI
 rw[List.length_reverse,List.length_drop,List.length_range];omega
def tkB(E:List (List (BitVec 8)))(ids:List Nat):ByteArray:=toks (ids.map (tok E))
theorem tkB_snoc{E:List (List (BitVec 8))}{ids:List Nat}{i:Nat}:tkB E ids++(sepB++digB i++colB++hexB (rowAt E i))=tkB E (ids++[i]):=by
 unfold tkB
 rw[List.map_append,List.map_singleton,←toks_snoc]
 unfold tok
 simp only[app_assoc]
theorem tkB_cons{E:List (List (BitVec 8))}{ids:List Nat}{i:Nat}:(sepB++digB i++colB++hexB (rowAt E i))++tkB E ids=tkB E (i::ids):=by
 unfold tkB
 rw[List.map_cons,←toks_cons]
 unfold tok
 simp only[app_assoc]
theorem tkB_le{xs:List (BitVec 8)}{k n r:Nat}{ids:List Nat}(hk:1≤k)(hkn:k≤n)(hn:n≤9)(hx:xs.length≤200)(hi:∀i∈ids,i<n)(hl:ids.length≤r):(tkB (enc xs k n) ids).size≤r*410:=by
 have h1:=toks_size (ws:=ids.map (tok (enc xs k n))) (b:=409) fun w hw=>by
  obtain⟨i,hi',rfl⟩:=List.mem_map.1 hw
  have:=hi i hi'
  exact tok_le (by omega) (row_le hk hkn this hx)
 rw[List.length_map]at h1
 exact Nat.le_trans h1 (Nat.mul_le_mul_right _ hl)
def codeB:ByteArray:=⟨#[99,111,100,101]⟩
def decoB:ByteArray:=⟨#[100,101,99,111,100,101]⟩
theorem words_pre{x y:ByteArray}(h:Wd y):wordsB (x++sepB++y)=wordsB x++[y]:=by
 rw[words_app,words_one h]
theorem words_code{xs:List (BitVec 8)}{k n:Nat}:wordsB (codeB++sepB++digB k++sepB++digB n++sepB++hexB xs)=[codeB,digB k,digB n,hexB xs]:=by
 rw[words_pre (wd_hex xs),words_pre (wd_dig n),words_pre (wd_dig k),words_one ⟨by decide,by decide⟩];rfl
theorem words_deco{E:List (List (BitVec 8))}{ids:List Nat}{k n l:Nat}:wordsB (decoB++sepB++digB k++sepB++digB n++sepB++digB l++tkB E ids)=[decoB,digB k,digB n,digB l]++ids.map (tok E):=by
 unfold tkB
 rw[words_toks _ fun w hw=>by obtain⟨i,-,rfl⟩:=List.mem_map.1 hw;exact wd_tok E i]
 rw[words_pre (wd_dig l),words_pre (wd_dig n),words_pre (wd_dig k),words_one ⟨by decide,by decide⟩];rfl
theorem row_lt{r j n W:Nat}(h:r*W+j<n*W):r<n:=Nat.lt_of_mul_lt_mul_right (Nat.lt_of_le_of_lt (Nat.le_add_right _ _) h)
theorem row_end{r j n W:Nat}(h:r*W+j=n*W)(hj:j<W):r=n:=by
 rcases Nat.lt_trichotomy r n with h1|h1| h1
 · have:=Nat.mul_le_mul_right W (show r+1≤ n from h1)
   rw[Nat.succ_mul]at this
   omega
 · exact h1
 · have:=Nat.mul_le_mul_right W (show n+1≤r from h1)
   rw[Nat.succ_mul]at this
   omega
theorem hexL_app(xs ys:List (BitVec 8)):hexL (xs++ys)=hexL xs++hexL ys:=by
 induction xs with
 |nil=>rfl
 |cons x r ih=>
  show nib _::nib _::hexL (r++ys)=nib _::nib _::(hexL r++hexL ys)
  rw[ih]
theorem hexS_snoc{xs:List (BitVec 8)}{i:Nat}(h:i<xs.length){b1 b2:BitVec 8}(h1:b1.toNat=(nib (xs[i]>>>4).toNat).toNat)(h2:b2.toNat=(nib (xs[i]&&&15#8).toNat).toNat):hexS (xs.take i)++strOf [b1,b2]=hexS (xs.take (i+1)):=by
 apply data_inj
 rw[app_data]
 show hexL (xs.take i)++[UInt8.ofNat b1.toNat,UInt8.ofNat b2.toNat]=hexL (xs.take (i+1))
 rw[List.take_succ_eq_append_getElem h,hexL_app,h1,h2,UInt8.ofNat_toNat,UInt8.ofNat_toNat]
 rfl
theorem nib_bv(c:UInt8):(BitVec.ofNat 8 c.toNat).toNat=c.toNat:=by
 rw[BitVec.toNat_ofNat]
 exact Nat.mod_eq_of_lt (UInt8.toNat_lt c)
theorem nib_bvi(c:UInt8):(BitVec.ofInt 8 ((c.toNat:Nat):Int)).toNat=c.toNat:=by
 rw[BitVec.ofInt_natCast]
 exact nib_bv c
theorem hexS_zero{xs:List (BitVec 8)}{i:Nat}(hi:i=xs.length)(e:(hexS (xs.take i)).toList=(⟨#[]⟩:ByteArray).toList):xs.length=0:=by
 rw[hi,List.take_of_length_le (Nat.le_refl _)]at e
 by_cases h:xs.length=0
 ·exact h
 ·exact(hexS_ne h e).elim
theorem hexS_nil{xs:List (BitVec 8)}{i:Nat}(h:xs.length=0):(hexS (xs.take i)).toList=(⟨#[]⟩:ByteArray).toList:=by
 obtain rfl:=List.length_eq_zero_iff.1 h
 rw[List.take_nil];rfl
theorem hexS_full{xs:List (BitVec 8)}{i:Nat}(hi:i=xs.length)(h:xs.length≠0):hexS (xs.take i)=hexB xs:=by
 rw[hi,List.take_of_length_le (Nat.le_refl _),hexB_some h]
theorem code5:(⟨#[99,111,100,101,32]⟩:ByteArray)=codeB++sepB:=data_inj (by rw[app_data];rfl)
theorem deco7:(⟨#[100,101,99,111,100,101,32]⟩:ByteArray)=decoB++sepB:=data_inj (by rw[app_data];rfl)
theorem out_at{rows:List (List (BitVec 8))}{l h r j p i:Nat}(hall:∀x∈rows,x.length=l)(hh:h=hz l)(hp:p=r*(h+1))(hi:i=p+j)(hr:r<rows.length)(hj:j≤h):∃c:UInt8,(outB rows).data.toList[i]?=some c∧(((c.toNat:Nat):Int)=10↔j=h):=by
 subst hh
 subst hp
 subst hi
 exact out_byte hall hr hj
theorem out_cut{rows:List (List (BitVec 8))}{l h r p i:Nat}(hall:∀x∈rows,x.length=l)(hh:h=hz l)(hp:p=r*(h+1))(hi:i=p+h)(hr:r<rows.length):(outB rows).extract p i=hexB (rowAt rows r):=by
 subst hh
 subst hi
 exact out_sub hall hr hp
section
variable{P:Program}{n:Nat}{ds:List Deferred}{ops:Array Oper}{K:Env→World→Prop}{l r:List (Nat×Kd)}{σ:Env}{w:World}{κ:Kd}{d:Option Tmp}
theorem RW.subX{T:TypeId}{s:ByteArray}{k1 k2:IntKind}{t1 t2:Int}(a b:Nat)(x:ByteArray)(hl:BX.look P n ops l σ=some (κ,semV (Instr.sliceAt T (.string s) (some (.int k1 t1)) (some (.int k2 t2)) none),d,r))(hT:isStr P T=true)(h1:t1=(a:Int))(h2:t2=(b:Int))(h3:a≤b)(h4:b≤s.size)(hx:s.extract a b=x)
 (h:RW P ops n ds K r (putO d (.string x) σ) w):RW P ops n ds K l σ w:=RW.subS a b hl hT h1 h2 h3 h4 (by rw[hx];exact h)
end
theorem hex2_le{xs:List (BitVec 8)}{i:Nat}{b1 b2:BitVec 8}(h:i≤1000000):(hexS (xs.take i)).size+(strOf [b1,b2]).size≤9223372036854775807:=by
 have h1:(strOf [b1,b2]).size=2:=rfl
 rw[hexS_size,List.length_take]
 omega
theorem codes_no{S:Nat→Prop}{w:World}{xs:List (BitVec 8)}{a:Option Addr}{c:Nat}{k n:Int}(hg:¬(1≤k∧k≤n∧n≤9∧xs.length≤200))(hq:(Fz cQ).p S w):
 Calls Tryz.prog 4 #[.slice a xs.length c,.I k,.I n] w (Ret fun v w'=>Ext w w'∧v=.bool true):=by
 refine qS (fn:=Tryz.f4) (n:=152) (σ:=[(0,.slice a xs.length c),(1,.I k),(2,.I n)]) Tryz.func4 ?_
 have H:=Hp.startF (w:=w) (S:=S) (G:=[Fz cQ]) (.cons hq .nil)
 refine qR 4 [.c [1,0,0],.c [1,0,1],.c [2]] [(0,.slice a xs.length c),(1,.I k),(2,.I n)] ?_
 refine qG (sq 0 16) ?_
 refine qP 3 (sq 3 16) [(0,.slice a xs.length c),(1,.I k),(2,.I n),(21,.bool (decide ((k:Int)<1)))] ?_
 refine tD (fun b_=>[(0,.slice a xs.length c),(1,.I k),(2,.I n),(21,.bool b_)]) ((k:Int)<1) (fun h1=>?_) (fun h1=>?_)
 ·
  refine qF 13 [(0,.slice a xs.length c),(1,.I k),(2,.I n),(34,.bool true)] ?_
  refine qR 2 [.c [1,0,1,0,0],.c [1,0,1,0,1],.c [2]] [] ?_
  refine qG (sq 0 2) ?_
  refine qK .seq (some 35) (sq 1 2) 8 #[] (heads_spec (H.fact 0 rfl)) ?_
  rintro _ w2 hE3 rfl
  have H:=H.ext hE3
  refine qF 1 [(6,.bool true)] ?_
  refine qT (.bool true) Tryz.func4 ?_
  exact⟨_,rfl,H.done,rfl⟩
 ·
  refine qP 5 (sq 8 16) [(0,.slice a xs.length c),(1,.I k),(2,.I n),(26,.bool (decide ((k:Int)>n)))] ?_
  refine tD (fun b_=>[(0,.slice a xs.length c),(1,.I k),(2,.I n),(26,.bool b_)]) ((k:Int)>n) (fun h4=>?_) (fun h4=>?_)
  ·
   refine qF 8 [(0,.slice a xs.length c),(1,.I k),(2,.I n),(34,.bool true)] ?_
   refine qR 2 [.c [1,0,1,0,0],.c [1,0,1,0,1],.c [2]] [] ?_
   refine qG (sq 0 2) ?_
   refine qK .seq (some 35) (sq 1 2) 8 #[] (heads_spec (H.fact 0 rfl)) ?_
   rintro _ w5 hE6 rfl
   have H:=H.ext hE6
   refine qF 1 [(6,.bool true)] ?_
   refine qT (.bool true) Tryz.func4 ?_
   exact⟨_,rfl,H.done,rfl⟩
  ·
   refine qP 4 (sq 12 16) [(0,.slice a xs.length c),(1,.I k),(2,.I n),(30,.bool (decide ((n:Int)>9)))] ?_
   refine tD (fun b_=>[(0,.slice a xs.length c),(1,.I k),(2,.I n),(30,.bool b_)]) ((n:Int)>9) (fun h7=>?_) (fun h7=>?_)
   ·
    refine qF 4 [(0,.slice a xs.length c),(1,.I k),(2,.I n),(34,.bool true)] ?_
    refine qR 2 [.c [1,0,1,0,0],.c [1,0,1,0,1],.c [2]] [] ?_
    refine qG (sq 0 2) ?_
    refine qK .seq (some 35) (sq 1 2) 8 #[] (heads_spec (H.fact 0 rfl)) ?_
    rintro _ w8 hE9 rfl
    have H:=H.ext hE9
    refine qF 1 [(6,.bool true)] ?_
    refine qT (.bool true) Tryz.func4 ?_
    exact⟨_,rfl,H.done,rfl⟩
   ·
    refine qF 4 [(0,.slice a xs.length c),(1,.I k),(2,.I n),(34,.bool (decide ((((xs.length:Nat):Int):Int)>200)))] ?_
    refine qD ((((xs.length:Nat):Int):Int)>200) (fun h10=>?_) (fun h10=>?_)
    ·
     refine qR 1 [.c [1,0,1,0,0],.c [1,0,1,0,1],.c [2]] [] ?_
     refine qG (sq 0 2) ?_
     refine qK .seq (some 35) (sq 1 2) 8 #[] (heads_spec (H.fact 0 rfl)) ?_
     rintro _ w11 hE12 rfl
     have H:=H.ext hE12
     refine qF 1 [(6,.bool true)] ?_
     refine qT (.bool true) Tryz.func4 ?_
     exact⟨_,rfl,H.done,rfl⟩
    ·
     omega
set_option maxHeartbeats 1000000 in
theorem codes_yes{S:Nat→Prop}{w:World}{xs:List (BitVec 8)}{a:Option Addr}{c k n:Nat}(h:(Rp SB [.slice a xs.length c] xs).p S w)(hk:1≤k)(hkn:k≤n)(hn:n≤9)(hxl:xs.length≤200)(hq:(Fz cQ).p S w):
 Calls Tryz.prog 4 #[.slice a xs.length c,.I k,.I n] w (Ret fun v w'=>Ext w w'∧v=.bool true):=by
 have hl1:(⟨#[99,111,100,101,32]⟩:ByteArray).size=5:=rfl
 have hl2:(⟨#[32]⟩:ByteArray).size=1:=rfl
 have hl3:(⟨#[58]⟩:ByteArray).size=1:=rfl
 have hl4:(⟨#[100,101,99,111,100,101,32]⟩:ByteArray).size=7:=rfl
 have hl5:(⟨#[10]⟩:ByteArray).size=1:=rfl
 have hd1:(digB k).size≤7:=dig_len (by omega)
 have hd2:(digB n).size≤7:=dig_len (by omega)
 have hd3:(digB xs.length).size≤7:=dig_len (by omega)
 have hx9:=hexB_le xs
 obtain⟨h9,hh⟩:∃h9,h9=hz (lenOf xs.length k):=⟨_,rfl⟩
 obtain⟨T,hT⟩:∃T,T=n*(h9+1):=⟨_,rfl⟩
 have hsz:(outB (enc xs k n)).size=T:=by rw[outB_size encD_all,enc_len hkn,hT,hh]
 have hTb:T≤9*402:=by
  rw[hT,hh]
  exact Nat.mul_le_mul hn (hz_le (Nat.le_trans (lenOf_le (by omega)) hxl))
 refine qS (fn:=Tryz.f4) (n:=152) (σ:=[(0,.slice a xs.length c),(1,.I k),(2,.I n)]) Tryz.func4 ?_
 have H:=Hp.startF (w:=w) (S:=S) (G:=[Rp SB [.slice a xs.length c] xs,Fz cQ]) (.rp h (.cons hq .nil))
 refine qR 4 [.c [1,0,0],.c [1,0,1],.c [2]] [(0,.slice a xs.length c),(1,.I k),(2,.I n)] ?_
 refine qG (sq 0 16) ?_
 refine qP 3 (sq 3 16) [(0,.slice a xs.length c),(1,.I k),(2,.I n),(21,.bool (decide (((k:Int):Int)<1)))] ?_
 refine tD (fun b_=>[(0,.slice a xs.length c),(1,.I k),(2,.I n),(21,.bool b_)]) (((k:Int):Int)<1) (fun h1=>?_) (fun h1=>?_)
 ·
  omega
 ·
  refine qP 5 (sq 8 16) [(0,.slice a xs.length c),(1,.I k),(2,.I n),(26,.bool (decide (((k:Int):Int)>(n:Int))))] ?_
  refine tD (fun b_=>[(0,.slice a xs.length c),(1,.I k),(2,.I n),(26,.bool b_)]) (((k:Int):Int)>(n:Int)) (fun h2=>?_) (fun h2=>?_)
  ·
   omega
  ·
   refine qP 4 (sq 12 16) [(0,.slice a xs.length c),(1,.I k),(2,.I n),(30,.bool (decide (((n:Int):Int)>9)))] ?_
   refine tD (fun b_=>[(0,.slice a xs.length c),(1,.I k),(2,.I n),(30,.bool b_)]) (((n:Int):Int)>9) (fun h3=>?_) (fun h3=>?_)
   ·
    omega
   ·
    refine qF 4 [(0,.slice a xs.length c),(1,.I k),(2,.I n),(34,.bool (decide ((((xs.length:Nat):Int):Int)>200)))] ?_
    refine qD ((((xs.length:Nat):Int):Int)>200) (fun h4=>?_) (fun h4=>?_)
    ·
     omega
    ·
     refine qR 9 [.c [4,0,1,0],.b 0,.c [5]] [(0,.slice a xs.length c),(1,.I k),(2,.I n),(7,.string (⟨#[]⟩:ByteArray)),(8,.string (⟨#[48,49,50,51,52,53,54,55,56,57,97,98,99,100,101,102]⟩:ByteArray)),(9,.I 0)] ?_
     refine WK.loop (α:=Nat) (b:=cd Tryz.prog 4 [4,0,1,0,0]) (by as_aux_lemma=>kernel_rfl) (fun i=>[(0,.slice a xs.length c),(1,.I k),(2,.I n),(7,.string (hexS (xs.take i))),(8,.string (⟨#[48,49,50,51,52,53,54,55,56,57,97,98,99,100,101,102]⟩:ByteArray)),(9,.I i)]) (fun i w'=>Hp w S [] [] [] [Rp SB [.slice a xs.length c] xs,Fz cQ] w'∧i≤xs.length) (fun i=>xs.length-i) 0 ⟨H,Nat.zero_le _⟩ (rfl) ?_
     rintro i w6⟨H,hinv0⟩hback5
     refine qR 3 [.c [4,0,1,0,0,0,1],.c [4,0,1,0,0,1],.l [4,0,1,0,0],.b 0,.c [5]] [(0,.slice a xs.length c),(1,.I k),(2,.I n),(7,.string (hexS (xs.take i))),(8,.string (⟨#[48,49,50,51,52,53,54,55,56,57,97,98,99,100,101,102]⟩:ByteArray)),(9,.I i),(39,.bool (decide (((i:Int):Int)<((xs.length:Nat):Int))))] ?_
     refine qD (((i:Int):Int)<((xs.length:Nat):Int)) (fun h7=>?_) (fun h7=>?_)
     ·
      refine qR 3 [.c [4,0,1,0,0,1,0,0],.b 1,.c [4,0,1,0,0,2],.l [4,0,1,0,0],.b 0,.c [5]] [(0,.slice a xs.length c),(1,.I k),(2,.I n),(7,.string (hexS (xs.take i))),(8,.string (⟨#[48,49,50,51,52,53,54,55,56,57,97,98,99,100,101,102]⟩:ByteArray)),(9,.I i)] ?_
      refine WK.draw1 19 [(0,.qui),(1,.qui),(2,.qui),(3,.qui),(4,.qui),(5,.qui),(6,.qui),(7,.qui),(8,.qui),(9,.qui),(10,.qui),(11,.qui),(12,.qui),(13,.qui),(14,.qui),(15,.chn),(16,.qui),(17,.qui),(18,.qui)] [(0,.qui),(1,.qui),(2,.qui),(3,.qui),(4,.qui),(5,.qui),(6,.qui),(7,.qui),(8,.qui),(9,.qui),(10,.qui),(11,.qui),(12,.qui),(13,.qui),(14,.qui),(15,.chn),(16,.qui),(17,.qui),(18,.qui)] Tryz_mixed (by as_aux_lemma=>kernel_rfl) (by as_aux_lemma=>kernel_rfl) (by as_aux_lemma=>kernel_rfl) ?_
      have H:=H.draw
      generalize({w6 with drawn:=w6.drawn+1}:World)=w8 at H⊢
      refine qP 4 [(4,.qui),(5,.qui),(6,.qui),(7,.qui),(8,.qui),(9,.qui),(10,.qui),(11,.qui),(12,.qui),(13,.qui),(14,.qui),(15,.chn),(16,.qui),(17,.qui),(18,.qui)] [(0,.slice a xs.length c),(1,.I k),(2,.I n),(7,.string (hexS (xs.take i))),(8,.string (⟨#[48,49,50,51,52,53,54,55,56,57,97,98,99,100,101,102]⟩:ByteArray)),(9,.I i),(42,.string (hexS (xs.take i))),(43,.string (⟨#[48,49,50,51,52,53,54,55,56,57,97,98,99,100,101,102]⟩:ByteArray)),(44,.slice a xs.length c),(45,.I i)] ?_
      have hx9:i<xs.length:=by omega
      refine qX .qui 46 [(5,.qui),(6,.qui),(7,.qui),(8,.qui),(9,.qui),(10,.qui),(11,.qui),(12,.qui),(13,.qui),(14,.qui),(15,.chn),(16,.qui),(17,.qui),(18,.qui)] 28 5 (i:Int) Sb (xs[i]) H 0 rfl i (by omega) (List.getElem?_eq_getElem hx9) ?_
      intro b10 o11 es12 hr13 H
      obtain rfl:=hr13
      refine qL .qui 47 [(6,.qui),(7,.qui),(8,.qui),(9,.qui),(10,.qui),(11,.qui),(12,.qui),(13,.qui),(14,.qui),(15,.chn),(16,.qui),(17,.qui),(18,.qui)] 5 b10 o11 0 (.int .u8 (((xs[i]).toNat:Nat):Int)) (H.fc 0 rfl) ?_
      refine RW.pv (κ:=.qui) (d:=some 48) (r:=[(7,.qui),(8,.qui),(9,.qui),(10,.qui),(11,.qui),(12,.qui),(13,.qui),(14,.qui),(15,.chn),(16,.qui),(17,.qui),(18,.qui)]) (v:=.int .u8 ((((xs[i]).toNat:Nat):Int).fdiv (2^4))) (v':=.int .u8 (((((xs[i])>>>4).toNat:Nat):Int))) (by as_aux_lemma=>kernel_rfl) (bv_shr8 _ 4) ?_
      refine RW.strNib (κ:=.qui) (d:=some 49) (r:=[(8,.qui),(9,.qui),(10,.qui),(11,.qui),(12,.qui),(13,.qui),(14,.qui),(15,.chn),(16,.qui),(17,.qui),(18,.qui)]) (T:=9) (k:=.u8) (t:=((((xs[i])>>>4).toNat:Nat):Int)) (((xs[i])>>>4).toNat) (by as_aux_lemma=>kernel_rfl) (by as_aux_lemma=>kernel_rfl) rfl (hi_lt _) ?_
      refine qP 3 [(11,.qui),(12,.qui),(13,.qui),(14,.qui),(15,.chn),(16,.qui),(17,.qui),(18,.qui)] [(0,.slice a xs.length c),(1,.I k),(2,.I n),(7,.string (hexS (xs.take i))),(8,.string (⟨#[48,49,50,51,52,53,54,55,56,57,97,98,99,100,101,102]⟩:ByteArray)),(9,.I i),(42,.string (hexS (xs.take i))),(49,.int .u8 (((nib ((xs[i])>>>4).toNat).toNat:Nat):Int)),(50,.string (⟨#[48,49,50,51,52,53,54,55,56,57,97,98,99,100,101,102]⟩:ByteArray)),(51,.slice a xs.length c),(52,.I i)] ?_
      have hx14:i<xs.length:=by omega
      refine qX .qui 53 [(12,.qui),(13,.qui),(14,.qui),(15,.chn),(16,.qui),(17,.qui),(18,.qui)] 28 5 (i:Int) Sb (xs[i]) H 1 rfl i (by omega) (List.getElem?_eq_getElem hx14) ?_
      intro b15 o16 es17 hr18 H
      obtain rfl:=hr18
      refine qL .qui 54 [(13,.qui),(14,.qui),(15,.chn),(16,.qui),(17,.qui),(18,.qui)] 5 b15 o16 0 (.int .u8 (((xs[i]).toNat:Nat):Int)) (H.fc 0 rfl) ?_
      refine RW.pv (κ:=.qui) (d:=some 55) (r:=[(14,.qui),(15,.chn),(16,.qui),(17,.qui),(18,.qui)]) (v:=.int .u8 (IntKind.u8.wrap ((BitVec.ofInt 8 (((xs[i]).toNat:Nat):Int)&&&BitVec.ofInt 8 15).toNat:Nat))) (v':=.int .u8 (((((xs[i])&&&(15#8)).toNat:Nat):Int))) (by as_aux_lemma=>kernel_rfl) (bv_and8 (bvi _) (by decide)) ?_
      refine RW.strNib (κ:=.qui) (d:=some 56) (r:=[(15,.chn),(16,.qui),(17,.qui),(18,.qui)]) (T:=9) (k:=.u8) (t:=((((xs[i])&&&(15#8)).toNat:Nat):Int)) (((xs[i])&&&(15#8)).toNat) (by as_aux_lemma=>kernel_rfl) (by as_aux_lemma=>kernel_rfl) rfl (lo_lt _) ?_
      refine RW.new (κ:=.chn) (d:=some 57) (r:=(qs [16,17,18])) (o:=.cells #[.int .u8 (((nib ((xs[i])>>>4).toNat).toNat:Nat):Int),.int .u8 (((nib ((xs[i])&&&(15#8)).toNat).toNat:Nat):Int)] 5 (0,0)) (v:=fun b=>.slice (some ⟨b,0,none⟩) 2 2) (fun b=>by as_aux_lemma=>kernel_rfl) (nofun) H ?_
      intro b19 w20 H
      have H:=H.freeze 0 rfl Sb ([BitVec.ofInt 8 (((nib ((xs[i])>>>4).toNat).toNat:Nat):Int),BitVec.ofInt 8 (((nib ((xs[i])&&&(15#8)).toNat).toNat:Nat):Int)]:List (BitVec 8)) 2 (by simp[maxLen]) (by first|exact Nat.le_refl _|simp) (EsP.cons (c:=[.int .u8 (((nib ((xs[i])>>>4).toNat).toNat:Nat):Int)]) (Shape.bv_lit (x:=BitVec.ofInt 8 (((nib ((xs[i])>>>4).toNat).toNat:Nat):Int)) (by first|decide|exact lit8 _)) (EsP.cons (c:=[.int .u8 (((nib ((xs[i])&&&(15#8)).toNat).toNat:Nat):Int)]) (Shape.bv_lit (x:=BitVec.ofInt 8 (((nib ((xs[i])&&&(15#8)).toNat).toNat:Nat):Int)) (by first|decide|exact lit8 _)) EsP.nil))
      have H:Hp w S [] [] [] [Rp SB [.slice (some ⟨b19,0,none⟩) 2 2] ([BitVec.ofInt 8 (((nib ((xs[i])>>>4).toNat).toNat:Nat):Int),BitVec.ofInt 8 (((nib ((xs[i])&&&(15#8)).toNat).toNat:Nat):Int)]:List (BitVec 8)),Fc b15 o16 [.int .u8 (((xs[i]).toNat:Nat):Int)],Fc b10 o11 [.int .u8 (((xs[i]).toNat:Nat):Int)],Rp SB [.slice a xs.length c] xs,Fz cQ] _:=H
      refine RW.toStr (κ:=.qui) (d:=some 58) (r:=(qs [17,18])) (Ts:=28) (Td:=9) 5 (a:=(some ⟨b19,0,none⟩)) (len:=2) (cap:=2) (xs:=([BitVec.ofInt 8 (((nib ((xs[i])>>>4).toNat).toNat:Nat):Int),BitVec.ofInt 8 (((nib ((xs[i])&&&(15#8)).toNat).toNat:Nat):Int)]:List (BitVec 8))) (by as_aux_lemma=>kernel_rfl) (by as_aux_lemma=>kernel_rfl) (H.rp 0 rfl) ?_
      refine RW.readS (κ:=.qui) (d:=some 59) (r:=[(18,.qui)]) (s:=semV (Op.stringOp .add (hexS (xs.take i)) (strOf ([BitVec.ofInt 8 (((nib ((xs[i])>>>4).toNat).toNat:Nat):Int),BitVec.ofInt 8 (((nib ((xs[i])&&&(15#8)).toNat).toNat:Nat):Int)]:List (BitVec 8))))) (v:=.string ((hexS (xs.take i))++(strOf ([BitVec.ofInt 8 (((nib ((xs[i])>>>4).toNat).toNat:Nat):Int),BitVec.ofInt 8 (((nib ((xs[i])&&&(15#8)).toNat).toNat:Nat):Int)]:List (BitVec 8))))) (by as_aux_lemma=>kernel_rfl) (fun w' _=>semV_run (run_string_add_sum w' _ _ (hex2_le (by omega)))) ?_
      refine qF 1 [(0,.slice a xs.length c),(1,.I k),(2,.I n),(7,.string ((hexS (xs.take i))++(strOf ([BitVec.ofInt 8 (((nib ((xs[i])>>>4).toNat).toNat:Nat):Int),BitVec.ofInt 8 (((nib ((xs[i])&&&(15#8)).toNat).toNat:Nat):Int)]:List (BitVec 8))))),(8,.string (⟨#[48,49,50,51,52,53,54,55,56,57,97,98,99,100,101,102]⟩:ByteArray)),(9,.I i)] ?_
      refine qR 1 [.c [4,0,1,0,0,2],.l [4,0,1,0,0],.b 0,.c [5]] [(0,.slice a xs.length c),(1,.I k),(2,.I n),(7,.string ((hexS (xs.take i))++(strOf ([BitVec.ofInt 8 (((nib ((xs[i])>>>4).toNat).toNat:Nat):Int),BitVec.ofInt 8 (((nib ((xs[i])&&&(15#8)).toNat).toNat:Nat):Int)]:List (BitVec 8))))),(8,.string (⟨#[48,49,50,51,52,53,54,55,56,57,97,98,99,100,101,102]⟩:ByteArray)),(9,.I i)] ?_
      have H:=H.pick [3,4] rfl
      refine qG (sq 0 3) ?_
      refine qP 1 (sq 1 3) [(0,.slice a xs.length c),(1,.I k),(2,.I n),(7,.string ((hexS (xs.take i))++(strOf ([BitVec.ofInt 8 (((nib ((xs[i])>>>4).toNat).toNat:Nat):Int),BitVec.ofInt 8 (((nib ((xs[i])&&&(15#8)).toNat).toNat:Nat):Int)]:List (BitVec 8))))),(8,.string (⟨#[48,49,50,51,52,53,54,55,56,57,97,98,99,100,101,102]⟩:ByteArray)),(9,.I i),(40,.I i)] ?_
      refine qI .seq 41 (sq 2 3) ((i:Int)+1) ?_
      refine qF 1 [(0,.slice a xs.length c),(1,.I k),(2,.I n),(7,.string ((hexS (xs.take i))++(strOf ([BitVec.ofInt 8 (((nib ((xs[i])>>>4).toNat).toNat:Nat):Int),BitVec.ofInt 8 (((nib ((xs[i])&&&(15#8)).toNat).toNat:Nat):Int)]:List (BitVec 8))))),(8,.string (⟨#[48,49,50,51,52,53,54,55,56,57,97,98,99,100,101,102]⟩:ByteArray)),(9,.I ((i:Int)+1))] ?_
      exact WK.back (hback5 (i+1) _ ⟨H,by omega⟩ (by first|omega|(simp only[];omega))) (by rw[←hexS_snoc (show i<xs.length by omega) (nib_bvi _) (nib_bvi _)];kernel_rfl)
     ·
      refine qR 4 [.c [5,0,1],.c [6]] [(0,.slice a xs.length c),(1,.I k),(2,.I n),(7,.string (hexS (xs.take i))),(61,.bool ((hexS (xs.take i)).toList==(⟨#[]⟩:ByteArray).toList))] ?_
      refine WK.joinV (α:=ByteArray) (fun x_ w_=>match x_ with|z=>Hp w S [] [] [] [Rp SB [.slice a xs.length c] xs,Fz cQ] w_∧z=hexB xs∧z.size≤401) (fun x_=>match x_ with|z=>[(0,.slice a xs.length c),(1,.I k),(2,.I n),(7,.string z)]) [Cq Tryz.prog 4 [6]] (fun hJ21=>?_) ?_
      ·
       refine qE ((hexS (xs.take i)).toList) ((⟨#[]⟩:ByteArray).toList) (fun h23=>?_) (fun h23=>?_)
       ·
        have hx0:xs.length=0:=hexS_zero (i:=i) (by omega) h23
        refine qR 1 [.c [6]] [(0,.slice a xs.length c),(1,.I k),(2,.I n),(7,.string (⟨#[45]⟩:ByteArray))] ?_
        exact hJ21 ((⟨#[45]⟩:ByteArray)) _ ⟨H,(hexB_none hx0).symm,by decide⟩
       ·
        have hx0:xs.length≠0:=fun e=>h23 (hexS_nil e)
        refine qR 1 [.c [6]] [(0,.slice a xs.length c),(1,.I k),(2,.I n),(7,.string (hexS (xs.take i)))] ?_
        exact hJ21 ((hexS (xs.take i))) _ ⟨H,hexS_full (by omega) hx0,by rw[hexS_full (by omega) hx0];omega⟩
      ·
       rintro z w22⟨H,⟨hz7,hz8⟩⟩
       refine qR 1 [.c [6,0],.c [7]] [(0,.slice a xs.length c),(1,.I k),(2,.I n),(7,.string z)] ?_
       refine qG (sq 0 2) ?_
       refine qK .seq (some 62) (sq 1 2) 6 #[] (new_spec (S:=Av S w [] (idsOf [] []))) ?_
       rintro _ w24-⟨b25,rfl,H'⟩
       have H:=H.back (M1:=[]) (W1:=[]) H'
       have H:Hp w S [] [(b25,.cells #[.bool true,.int .u64 1,.slice none 0 0,.pointer none] 38 (0,0))] [] [Rp SB [.slice a xs.length c] xs,Fz cQ] _:=H
       refine qF 1 [(0,.slice a xs.length c),(1,.I k),(2,.I n),(7,.string z),(10,.P b25 0)] ?_
       refine qR 6 [.c [8,0],.c [9]] [(0,.slice a xs.length c),(1,.I k),(2,.I n),(7,.string z),(10,.P b25 0)] ?_
       refine qG (sq 0 13) ?_
       refine qP 2 (sq 2 13) [(0,.slice a xs.length c),(1,.I k),(2,.I n),(7,.string z),(10,.P b25 0),(65,.P b25 0),(66,.I k)] ?_
       refine qK .seq (some 67) (sq 3 13) 9 #[.I k] (num_spec (S:=fun _=>True) (n:=k) (by omega)) ?_
       rintro _ w26 hE27 rfl
       have H:=H.ext hE27
       refine RW.readS (κ:=.seq) (d:=some 68) (r:=(sq 4 13)) (s:=semV (Op.stringOp .add (⟨#[99,111,100,101,32]⟩:ByteArray) (digB k))) (v:=.string ((⟨#[99,111,100,101,32]⟩:ByteArray)++(digB k))) (by as_aux_lemma=>kernel_rfl) (fun w' _=>semV_run (run_string_add_sum w' _ _ ((by(try simp only[ByteArray.size_append,hl1,hl2,hl3,hl4,hl5])<;>omega)))) ?_
       refine RW.readS (κ:=.seq) (d:=some 69) (r:=(sq 5 13)) (s:=semV (Op.stringOp .add ((⟨#[99,111,100,101,32]⟩:ByteArray)++(digB k)) (⟨#[32]⟩:ByteArray))) (v:=.string (((⟨#[99,111,100,101,32]⟩:ByteArray)++(digB k))++(⟨#[32]⟩:ByteArray))) (by as_aux_lemma=>kernel_rfl) (fun w' _=>semV_run (run_string_add_sum w' _ _ ((by(try simp only[ByteArray.size_append,hl1,hl2,hl3,hl4,hl5])<;>omega)))) ?_
       refine qP 1 (sq 6 13) [(0,.slice a xs.length c),(1,.I k),(2,.I n),(7,.string z),(10,.P b25 0),(65,.P b25 0),(69,.string (((⟨#[99,111,100,101,32]⟩:ByteArray)++(digB k))++(⟨#[32]⟩:ByteArray))),(70,.I n)] ?_
       refine qK .seq (some 71) (sq 7 13) 9 #[.I n] (num_spec (S:=fun _=>True) (n:=n) (by omega)) ?_
       rintro _ w28 hE29 rfl
       have H:=H.ext hE29
       refine RW.readS (κ:=.seq) (d:=some 72) (r:=(sq 8 13)) (s:=semV (Op.stringOp .add (((⟨#[99,111,100,101,32]⟩:ByteArray)++(digB k))++(⟨#[32]⟩:ByteArray)) (digB n))) (v:=.string ((((⟨#[99,111,100,101,32]⟩:ByteArray)++(digB k))++(⟨#[32]⟩:ByteArray))++(digB n))) (by as_aux_lemma=>kernel_rfl) (fun w' _=>semV_run (run_string_add_sum w' _ _ ((by(try simp only[ByteArray.size_append,hl1,hl2,hl3,hl4,hl5])<;>omega)))) ?_
       refine RW.readS (κ:=.seq) (d:=some 73) (r:=(sq 9 13)) (s:=semV (Op.stringOp .add ((((⟨#[99,111,100,101,32]⟩:ByteArray)++(digB k))++(⟨#[32]⟩:ByteArray))++(digB n)) (⟨#[32]⟩:ByteArray))) (v:=.string (((((⟨#[99,111,100,101,32]⟩:ByteArray)++(digB k))++(⟨#[32]⟩:ByteArray))++(digB n))++(⟨#[32]⟩:ByteArray))) (by as_aux_lemma=>kernel_rfl) (fun w' _=>semV_run (run_string_add_sum w' _ _ ((by(try simp only[ByteArray.size_append,hl1,hl2,hl3,hl4,hl5])<;>omega)))) ?_
       refine qP 1 (sq 10 13) [(0,.slice a xs.length c),(1,.I k),(2,.I n),(7,.string z),(10,.P b25 0),(65,.P b25 0),(73,.string (((((⟨#[99,111,100,101,32]⟩:ByteArray)++(digB k))++(⟨#[32]⟩:ByteArray))++(digB n))++(⟨#[32]⟩:ByteArray))),(74,.string z)] ?_
       refine RW.readS (κ:=.seq) (d:=some 75) (r:=(sq 11 13)) (s:=semV (Op.stringOp .add (((((⟨#[99,111,100,101,32]⟩:ByteArray)++(digB k))++(⟨#[32]⟩:ByteArray))++(digB n))++(⟨#[32]⟩:ByteArray)) z)) (v:=.string ((((((⟨#[99,111,100,101,32]⟩:ByteArray)++(digB k))++(⟨#[32]⟩:ByteArray))++(digB n))++(⟨#[32]⟩:ByteArray))++z)) (by as_aux_lemma=>kernel_rfl) (fun w' _=>semV_run (run_string_add_sum w' _ _ ((by(try simp only[ByteArray.size_append,hl1,hl2,hl3,hl4,hl5])<;>omega)))) ?_
       refine RW.callS (d:=some 76) (r:=(sq 12 13)) (g:=7) (args:=#[.P b25 0,.string ((((((⟨#[99,111,100,101,32]⟩:ByteArray)++(digB k))++(⟨#[32]⟩:ByteArray))++(digB n))++(⟨#[32]⟩:ByteArray))++z)]) (by as_aux_lemma=>kernel_rfl) (do_code_g hk hkn hn hxl (by(try simp only[ByteArray.size_append,hl1,hl2,hl3,hl4,hl5])<;>omega) (by rw[hz7,code5];exact words_code) ((H.lend (M1:=[(b25,.cells #[.bool true,.int .u64 1,.slice none 0 0,.pointer none] 38 (0,0))]) (W1:=[])).pick [1] rfl)) ?_
       rintro _ w30⟨rfl,H'⟩
       have H:=H.back (M1:=[(b25,.cells #[.bool true,.int .u64 1,.slice none 0 0,.pointer none] 38 (0,0))]) (W1:=[]) H'
       have H:Hp w S [] [(b25,.cells #[.bool true,.int .u64 1,.slice none 0 0,.pointer none] 38 (0,0))] [] [Rp SB [.slice a xs.length c] xs,Fz cQ] _:=H
       refine qF 1 [(0,.slice a xs.length c),(1,.I k),(2,.I n),(7,.string z),(10,.P b25 0),(11,.string (outB (enc xs k n)))] ?_
       refine qR 8 [.c [11,0,1,0],.b 2,.c [12]] [(0,.slice a xs.length c),(1,.I k),(2,.I n),(7,.string z),(10,.P b25 0),(11,.string (outB (enc xs k n))),(12,.string (⟨#[]⟩:ByteArray)),(13,.string (⟨#[]⟩:ByteArray)),(14,.I 0),(15,.I 0),(16,.I 0)] ?_
       refine WK.loop (α:=Nat×Nat×Nat×Nat) (b:=cd Tryz.prog 4 [11,0,1,0,0]) (by as_aux_lemma=>kernel_rfl) (fun st_=>match st_ with|(i,p,r,j)=>[(0,.slice a xs.length c),(1,.I k),(2,.I n),(7,.string z),(10,.P b25 0),(11,.string (outB (enc xs k n))),(12,.string (tkB (enc xs k n) (fI k r))),(13,.string (tkB (enc xs k n) (lI (n-k) r))),(14,.I p),(15,.I r),(16,.I i)]) (fun st_ w'=>match st_ with|(i,p,r,j)=>Hp w S [] [(b25,.cells #[.bool true,.int .u64 1,.slice none 0 0,.pointer none] 38 (0,0))] [] [Rp SB [.slice a xs.length c] xs,Fz cQ] w'∧p=r*(h9+1)∧i=p+j∧j≤h9∧i≤T∧r≤n) (fun st_=>match st_ with|(i,p,r,j)=>T-i) (0,0,0,0) ⟨H,(Nat.zero_mul _).symm,rfl,Nat.zero_le _,Nat.zero_le _,Nat.zero_le _⟩ (by first|rfl|(simp only[fI,lI,tkB,Nat.zero_min,List.range_zero,List.drop_nil,List.reverse_nil,List.map_nil];rfl)) ?_
       rintro⟨i,p,r,j⟩w32⟨H,hinv2⟩hback31
       have hF:=tkB_le (ids:=fI k r) hk hkn hn hxl (fun i hi=>Nat.lt_of_lt_of_le (fI_lt i hi) hinv2.2.2.2.2) (fI_le k r)
       have hL:=tkB_le (ids:=lI (n-k) r) hk hkn hn hxl (fun i hi=>Nat.lt_of_lt_of_le (lI_lt i hi) hinv2.2.2.2.2) (lI_le (n-k) r)
       refine qR 3 [.c [11,0,1,0,0,0,1],.c [11,0,1,0,0,1],.l [11,0,1,0,0],.b 2,.c [12]] [(0,.slice a xs.length c),(1,.I k),(2,.I n),(7,.string z),(10,.P b25 0),(11,.string (outB (enc xs k n))),(12,.string (tkB (enc xs k n) (fI k r))),(13,.string (tkB (enc xs k n) (lI (n-k) r))),(14,.I p),(15,.I r),(16,.I i),(80,.bool (decide (((i:Int):Int)<(((outB (enc xs k n)).size:Nat):Int))))] ?_
       refine qD (((i:Int):Int)<(((outB (enc xs k n)).size:Nat):Int)) (fun h33=>?_) (fun h33=>?_)
       ·
        have hrn:r<n:=row_lt (W:=h9+1) (j:=j) (by rw[←hinv2.1,←hT];omega)
        have hX:=hexB_le (rowAt (enc xs k n) r)
        have hXl:=row_le hk hkn hrn hxl
        have hd4:(digB r).size≤7:=dig_len (by omega)
        refine qR 5 [.c [11,0,1,0,0,1,0,0,0,0],.c [11,0,1,0,0,1,0,0,0,1],.c [11,0,1,0,0,1,0,0,1],.b 3,.c [11,0,1,0,0,2],.l [11,0,1,0,0],.b 2,.c [12]] [(0,.slice a xs.length c),(1,.I k),(2,.I n),(7,.string z),(10,.P b25 0),(11,.string (outB (enc xs k n))),(12,.string (tkB (enc xs k n) (fI k r))),(13,.string (tkB (enc xs k n) (lI (n-k) r))),(14,.I p),(15,.I r),(16,.I i)] ?_
        refine qG (sq 0 4) ?_
        refine qP 2 (sq 2 4) [(0,.slice a xs.length c),(1,.I k),(2,.I n),(7,.string z),(10,.P b25 0),(11,.string (outB (enc xs k n))),(12,.string (tkB (enc xs k n) (fI k r))),(13,.string (tkB (enc xs k n) (lI (n-k) r))),(14,.I p),(15,.I r),(16,.I i),(83,.string (outB (enc xs k n))),(84,.I i)] ?_
        obtain⟨c9,hc9,hc10⟩:=out_at (rows:=(enc xs k n)) encD_all hh hinv2.1 hinv2.2.1 (by rw[enc_len hkn];exact hrn) hinv2.2.2.1
        refine RW.strCh (κ:=.seq) (d:=some 85) (r:=(sq 3 4)) (T:=9) (s:=(outB (enc xs k n))) (k:=.i64) (t:=(i:Int)) (i) (c9) (by as_aux_lemma=>kernel_rfl) (by as_aux_lemma=>kernel_rfl) (by omega) hc9 ?_
        refine qF 1 [(0,.slice a xs.length c),(1,.I k),(2,.I n),(7,.string z),(10,.P b25 0),(11,.string (outB (enc xs k n))),(12,.string (tkB (enc xs k n) (fI k r))),(13,.string (tkB (enc xs k n) (lI (n-k) r))),(14,.I p),(15,.I r),(16,.I i),(86,.bool (((c9.toNat:Nat):Int)!=10))] ?_
        refine qN ((c9.toNat:Nat):Int) 10 (fun h34=>?_) (fun h34=>?_)
        ·
         refine qR 1 [.c [11,0,1,0,0,2],.l [11,0,1,0,0],.b 2,.c [12]] [(0,.slice a xs.length c),(1,.I k),(2,.I n),(7,.string z),(10,.P b25 0),(11,.string (outB (enc xs k n))),(12,.string (tkB (enc xs k n) (fI k r))),(13,.string (tkB (enc xs k n) (lI (n-k) r))),(14,.I p),(15,.I r),(16,.I i)] ?_
         refine qG (sq 0 3) ?_
         refine qP 1 (sq 1 3) [(0,.slice a xs.length c),(1,.I k),(2,.I n),(7,.string z),(10,.P b25 0),(11,.string (outB (enc xs k n))),(12,.string (tkB (enc xs k n) (fI k r))),(13,.string (tkB (enc xs k n) (lI (n-k) r))),(14,.I p),(15,.I r),(16,.I i),(81,.I i)] ?_
         refine qI .seq 82 (sq 2 3) ((i:Int)+1) ?_
         refine qF 1 [(0,.slice a xs.length c),(1,.I k),(2,.I n),(7,.string z),(10,.P b25 0),(11,.string (outB (enc xs k n))),(12,.string (tkB (enc xs k n) (fI k r))),(13,.string (tkB (enc xs k n) (lI (n-k) r))),(14,.I p),(15,.I r),(16,.I ((i:Int)+1))] ?_
         exact WK.back (hback31 ((i+1),p,r,(j+1)) _ ⟨H,hinv2.1,by omega,by omega,by omega,by omega⟩ (by first|omega|(simp only[];omega))) (by as_aux_lemma=>kernel_rfl)
        ·
         refine qR 2 [.c [11,0,1,0,0,1,0,0,1,0],.c [11,0,1,0,0,1,0,0,2],.b 3,.c [11,0,1,0,0,2],.l [11,0,1,0,0],.b 2,.c [12]] [(0,.slice a xs.length c),(1,.I k),(2,.I n),(7,.string z),(10,.P b25 0),(11,.string (outB (enc xs k n))),(12,.string (tkB (enc xs k n) (fI k r))),(13,.string (tkB (enc xs k n) (lI (n-k) r))),(14,.I p),(15,.I r),(16,.I i)] ?_
         refine WK.draw1 10 [(0,.qui),(4,.qui),(5,.qui),(6,.qui),(7,.qui),(1,.chn),(2,.qui),(3,.qui),(8,.qui),(9,.qui)] [(0,.qui),(4,.qui),(5,.qui),(6,.qui),(7,.qui),(1,.chn),(2,.qui),(3,.qui),(8,.qui),(9,.qui)] Tryz_mixed (by as_aux_lemma=>kernel_rfl) (by as_aux_lemma=>kernel_rfl) (by as_aux_lemma=>kernel_rfl) ?_
         have H:=H.draw
         generalize({w32 with drawn:=w32.drawn+1}:World)=w35 at H⊢
         refine qP 4 [(7,.qui),(1,.chn),(2,.qui),(3,.qui),(8,.qui),(9,.qui)] [(0,.slice a xs.length c),(1,.I k),(2,.I n),(7,.string z),(10,.P b25 0),(11,.string (outB (enc xs k n))),(12,.string (tkB (enc xs k n) (fI k r))),(13,.string (tkB (enc xs k n) (lI (n-k) r))),(15,.I r),(16,.I i),(87,.I r),(91,.string (outB (enc xs k n))),(92,.I p),(93,.I i)] ?_
         refine RW.subX (κ:=.qui) (d:=some 94) (r:=[(1,.chn),(2,.qui),(3,.qui),(8,.qui),(9,.qui)]) (T:=9) (s:=(outB (enc xs k n))) (k1:=.i64) (t1:=(p:Int)) (k2:=.i64) (t2:=(i:Int)) (p) (i) (hexB (rowAt (enc xs k n) r)) (by as_aux_lemma=>kernel_rfl) (by as_aux_lemma=>kernel_rfl) rfl rfl (by omega) (by rw[hsz];omega) (out_cut encD_all hh hinv2.1 (by omega) (by rw[enc_len hkn];exact hrn)) ?_
         refine qK .chn (some 88) (qs [2,3,8,9]) 9 #[.I r] (num_spec (S:=fun _=>True) (n:=r) (by omega)) ?_
         rintro _ w36 hE37 rfl
         have H:=H.ext hE37
         refine RW.readS (κ:=.qui) (d:=some 89) (r:=(qs [3,8,9])) (s:=semV (Op.stringOp .add (⟨#[32]⟩:ByteArray) (digB r))) (v:=.string ((⟨#[32]⟩:ByteArray)++(digB r))) (by as_aux_lemma=>kernel_rfl) (fun w' _=>semV_run (run_string_add_sum w' _ _ ((by(try simp only[ByteArray.size_append,hl1,hl2,hl3,hl4,hl5])<;>omega)))) ?_
         refine RW.readS (κ:=.qui) (d:=some 90) (r:=(qs [8,9])) (s:=semV (Op.stringOp .add ((⟨#[32]⟩:ByteArray)++(digB r)) (⟨#[58]⟩:ByteArray))) (v:=.string (((⟨#[32]⟩:ByteArray)++(digB r))++(⟨#[58]⟩:ByteArray))) (by as_aux_lemma=>kernel_rfl) (fun w' _=>semV_run (run_string_add_sum w' _ _ ((by(try simp only[ByteArray.size_append,hl1,hl2,hl3,hl4,hl5])<;>omega)))) ?_
         refine RW.readS (κ:=.qui) (d:=some 95) (r:=[(9,.qui)]) (s:=semV (Op.stringOp .add (((⟨#[32]⟩:ByteArray)++(digB r))++(⟨#[58]⟩:ByteArray)) (hexB (rowAt (enc xs k n) r)))) (v:=.string ((((⟨#[32]⟩:ByteArray)++(digB r))++(⟨#[58]⟩:ByteArray))++(hexB (rowAt (enc xs k n) r)))) (by as_aux_lemma=>kernel_rfl) (fun w' _=>semV_run (run_string_add_sum w' _ _ ((by(try simp only[ByteArray.size_append,hl1,hl2,hl3,hl4,hl5])<;>omega)))) ?_
         refine qF 1 [(0,.slice a xs.length c),(1,.I k),(2,.I n),(7,.string z),(10,.P b25 0),(11,.string (outB (enc xs k n))),(12,.string (tkB (enc xs k n) (fI k r))),(13,.string (tkB (enc xs k n) (lI (n-k) r))),(15,.I r),(16,.I i),(17,.string ((((⟨#[32]⟩:ByteArray)++(digB r))++(⟨#[58]⟩:ByteArray))++(hexB (rowAt (enc xs k n) r))))] ?_
         refine qR 3 [.c [11,0,1,0,0,1,0,0,2,0,1],.c [11,0,1,0,0,1,0,0,3],.b 3,.c [11,0,1,0,0,2],.l [11,0,1,0,0],.b 2,.c [12]] [(0,.slice a xs.length c),(1,.I k),(2,.I n),(7,.string z),(10,.P b25 0),(11,.string (outB (enc xs k n))),(12,.string (tkB (enc xs k n) (fI k r))),(13,.string (tkB (enc xs k n) (lI (n-k) r))),(15,.I r),(16,.I i),(17,.string ((((⟨#[32]⟩:ByteArray)++(digB r))++(⟨#[58]⟩:ByteArray))++(hexB (rowAt (enc xs k n) r)))),(98,.bool (decide (((r:Int):Int)<(k:Int))))] ?_
         refine qD (((r:Int):Int)<(k:Int)) (fun h38=>?_) (fun h38=>?_)
         ·
          refine qG (sq 0 4) ?_
          refine qP 2 (sq 2 4) [(0,.slice a xs.length c),(1,.I k),(2,.I n),(7,.string z),(10,.P b25 0),(11,.string (outB (enc xs k n))),(12,.string (tkB (enc xs k n) (fI k r))),(13,.string (tkB (enc xs k n) (lI (n-k) r))),(15,.I r),(16,.I i),(17,.string ((((⟨#[32]⟩:ByteArray)++(digB r))++(⟨#[58]⟩:ByteArray))++(hexB (rowAt (enc xs k n) r)))),(99,.string (tkB (enc xs k n) (fI k r))),(100,.string ((((⟨#[32]⟩:ByteArray)++(digB r))++(⟨#[58]⟩:ByteArray))++(hexB (rowAt (enc xs k n) r))))] ?_
          refine RW.readS (κ:=.seq) (d:=some 101) (r:=(sq 3 4)) (s:=semV (Op.stringOp .add (tkB (enc xs k n) (fI k r)) ((((⟨#[32]⟩:ByteArray)++(digB r))++(⟨#[58]⟩:ByteArray))++(hexB (rowAt (enc xs k n) r))))) (v:=.string ((tkB (enc xs k n) (fI k r))++((((⟨#[32]⟩:ByteArray)++(digB r))++(⟨#[58]⟩:ByteArray))++(hexB (rowAt (enc xs k n) r))))) (by as_aux_lemma=>kernel_rfl) (fun w' _=>semV_run (run_string_add_sum w' _ _ ((by(try simp only[ByteArray.size_append,hl1,hl2,hl3,hl4,hl5])<;>omega)))) ?_
          refine qF 1 [(0,.slice a xs.length c),(1,.I k),(2,.I n),(7,.string z),(10,.P b25 0),(11,.string (outB (enc xs k n))),(12,.string ((tkB (enc xs k n) (fI k r))++((((⟨#[32]⟩:ByteArray)++(digB r))++(⟨#[58]⟩:ByteArray))++(hexB (rowAt (enc xs k n) r))))),(13,.string (tkB (enc xs k n) (lI (n-k) r))),(15,.I r),(16,.I i),(17,.string ((((⟨#[32]⟩:ByteArray)++(digB r))++(⟨#[58]⟩:ByteArray))++(hexB (rowAt (enc xs k n) r))))] ?_
          refine qR 2 [.c [11,0,1,0,0,1,0,0,3,0,0],.c [11,0,1,0,0,1,0,0,3,0,1],.c [11,0,1,0,0,1,0,0,4],.b 3,.c [11,0,1,0,0,2],.l [11,0,1,0,0],.b 2,.c [12]] [(0,.slice a xs.length c),(1,.I k),(2,.I n),(7,.string z),(10,.P b25 0),(11,.string (outB (enc xs k n))),(12,.string ((tkB (enc xs k n) (fI k r))++((((⟨#[32]⟩:ByteArray)++(digB r))++(⟨#[58]⟩:ByteArray))++(hexB (rowAt (enc xs k n) r))))),(13,.string (tkB (enc xs k n) (lI (n-k) r))),(15,.I r),(16,.I i),(17,.string ((((⟨#[32]⟩:ByteArray)++(digB r))++(⟨#[58]⟩:ByteArray))++(hexB (rowAt (enc xs k n) r))))] ?_
          refine qG (sq 0 5) ?_
          refine qP 3 (sq 3 5) [(0,.slice a xs.length c),(1,.I k),(2,.I n),(7,.string z),(10,.P b25 0),(11,.string (outB (enc xs k n))),(12,.string ((tkB (enc xs k n) (fI k r))++((((⟨#[32]⟩:ByteArray)++(digB r))++(⟨#[58]⟩:ByteArray))++(hexB (rowAt (enc xs k n) r))))),(13,.string (tkB (enc xs k n) (lI (n-k) r))),(15,.I r),(16,.I i),(17,.string ((((⟨#[32]⟩:ByteArray)++(digB r))++(⟨#[58]⟩:ByteArray))++(hexB (rowAt (enc xs k n) r)))),(102,.I r),(103,.I n),(104,.I k)] ?_
          refine qI .seq 105 (sq 4 5) ((n:Int)-(k:Int)) ?_
          refine qF 1 [(0,.slice a xs.length c),(1,.I k),(2,.I n),(7,.string z),(10,.P b25 0),(11,.string (outB (enc xs k n))),(12,.string ((tkB (enc xs k n) (fI k r))++((((⟨#[32]⟩:ByteArray)++(digB r))++(⟨#[58]⟩:ByteArray))++(hexB (rowAt (enc xs k n) r))))),(13,.string (tkB (enc xs k n) (lI (n-k) r))),(15,.I r),(16,.I i),(17,.string ((((⟨#[32]⟩:ByteArray)++(digB r))++(⟨#[58]⟩:ByteArray))++(hexB (rowAt (enc xs k n) r)))),(106,.bool (decide (((r:Int):Int)≥(n:Int)-(k:Int))))] ?_
          refine qD (((r:Int):Int)≥(n:Int)-(k:Int)) (fun h39=>?_) (fun h39=>?_)
          ·
           refine qG (sq 0 4) ?_
           refine qP 2 (sq 2 4) [(0,.slice a xs.length c),(1,.I k),(2,.I n),(7,.string z),(10,.P b25 0),(11,.string (outB (enc xs k n))),(12,.string ((tkB (enc xs k n) (fI k r))++((((⟨#[32]⟩:ByteArray)++(digB r))++(⟨#[58]⟩:ByteArray))++(hexB (rowAt (enc xs k n) r))))),(13,.string (tkB (enc xs k n) (lI (n-k) r))),(15,.I r),(16,.I i),(107,.string ((((⟨#[32]⟩:ByteArray)++(digB r))++(⟨#[58]⟩:ByteArray))++(hexB (rowAt (enc xs k n) r)))),(108,.string (tkB (enc xs k n) (lI (n-k) r)))] ?_
           refine RW.readS (κ:=.seq) (d:=some 109) (r:=(sq 3 4)) (s:=semV (Op.stringOp .add ((((⟨#[32]⟩:ByteArray)++(digB r))++(⟨#[58]⟩:ByteArray))++(hexB (rowAt (enc xs k n) r))) (tkB (enc xs k n) (lI (n-k) r)))) (v:=.string (((((⟨#[32]⟩:ByteArray)++(digB r))++(⟨#[58]⟩:ByteArray))++(hexB (rowAt (enc xs k n) r)))++(tkB (enc xs k n) (lI (n-k) r)))) (by as_aux_lemma=>kernel_rfl) (fun w' _=>semV_run (run_string_add_sum w' _ _ ((by(try simp only[ByteArray.size_append,hl1,hl2,hl3,hl4,hl5])<;>omega)))) ?_
           refine qF 1 [(0,.slice a xs.length c),(1,.I k),(2,.I n),(7,.string z),(10,.P b25 0),(11,.string (outB (enc xs k n))),(12,.string ((tkB (enc xs k n) (fI k r))++((((⟨#[32]⟩:ByteArray)++(digB r))++(⟨#[58]⟩:ByteArray))++(hexB (rowAt (enc xs k n) r))))),(13,.string (((((⟨#[32]⟩:ByteArray)++(digB r))++(⟨#[58]⟩:ByteArray))++(hexB (rowAt (enc xs k n) r)))++(tkB (enc xs k n) (lI (n-k) r)))),(15,.I r),(16,.I i)] ?_
           refine qR 1 [.c [11,0,1,0,0,1,0,0,4,0],.c [11,0,1,0,0,1,0,0,5],.b 3,.c [11,0,1,0,0,2],.l [11,0,1,0,0],.b 2,.c [12]] [(0,.slice a xs.length c),(1,.I k),(2,.I n),(7,.string z),(10,.P b25 0),(11,.string (outB (enc xs k n))),(12,.string ((tkB (enc xs k n) (fI k r))++((((⟨#[32]⟩:ByteArray)++(digB r))++(⟨#[58]⟩:ByteArray))++(hexB (rowAt (enc xs k n) r))))),(13,.string (((((⟨#[32]⟩:ByteArray)++(digB r))++(⟨#[58]⟩:ByteArray))++(hexB (rowAt (enc xs k n) r)))++(tkB (enc xs k n) (lI (n-k) r)))),(15,.I r),(16,.I i)] ?_
           refine qG (sq 0 3) ?_
           refine qP 1 (sq 1 3) [(0,.slice a xs.length c),(1,.I k),(2,.I n),(7,.string z),(10,.P b25 0),(11,.string (outB (enc xs k n))),(12,.string ((tkB (enc xs k n) (fI k r))++((((⟨#[32]⟩:ByteArray)++(digB r))++(⟨#[58]⟩:ByteArray))++(hexB (rowAt (enc xs k n) r))))),(13,.string (((((⟨#[32]⟩:ByteArray)++(digB r))++(⟨#[58]⟩:ByteArray))++(hexB (rowAt (enc xs k n) r)))++(tkB (enc xs k n) (lI (n-k) r)))),(15,.I r),(16,.I i),(110,.I i)] ?_
           refine qI .seq 111 (sq 2 3) ((i:Int)+1) ?_
           refine qF 1 [(0,.slice a xs.length c),(1,.I k),(2,.I n),(7,.string z),(10,.P b25 0),(11,.string (outB (enc xs k n))),(12,.string ((tkB (enc xs k n) (fI k r))++((((⟨#[32]⟩:ByteArray)++(digB r))++(⟨#[58]⟩:ByteArray))++(hexB (rowAt (enc xs k n) r))))),(13,.string (((((⟨#[32]⟩:ByteArray)++(digB r))++(⟨#[58]⟩:ByteArray))++(hexB (rowAt (enc xs k n) r)))++(tkB (enc xs k n) (lI (n-k) r)))),(14,.I ((i:Int)+1)),(15,.I r),(16,.I i)] ?_
           refine qG (sq 0 3) ?_
           refine qP 1 (sq 1 3) [(0,.slice a xs.length c),(1,.I k),(2,.I n),(7,.string z),(10,.P b25 0),(11,.string (outB (enc xs k n))),(12,.string ((tkB (enc xs k n) (fI k r))++((((⟨#[32]⟩:ByteArray)++(digB r))++(⟨#[58]⟩:ByteArray))++(hexB (rowAt (enc xs k n) r))))),(13,.string (((((⟨#[32]⟩:ByteArray)++(digB r))++(⟨#[58]⟩:ByteArray))++(hexB (rowAt (enc xs k n) r)))++(tkB (enc xs k n) (lI (n-k) r)))),(14,.I ((i:Int)+1)),(15,.I r),(16,.I i),(112,.I r)] ?_
           refine qI .seq 113 (sq 2 3) ((r:Int)+1) ?_
           refine qF 1 [(0,.slice a xs.length c),(1,.I k),(2,.I n),(7,.string z),(10,.P b25 0),(11,.string (outB (enc xs k n))),(12,.string ((tkB (enc xs k n) (fI k r))++((((⟨#[32]⟩:ByteArray)++(digB r))++(⟨#[58]⟩:ByteArray))++(hexB (rowAt (enc xs k n) r))))),(13,.string (((((⟨#[32]⟩:ByteArray)++(digB r))++(⟨#[58]⟩:ByteArray))++(hexB (rowAt (enc xs k n) r)))++(tkB (enc xs k n) (lI (n-k) r)))),(14,.I ((i:Int)+1)),(15,.I ((r:Int)+1)),(16,.I i)] ?_
           refine qR 1 [.c [11,0,1,0,0,2],.l [11,0,1,0,0],.b 2,.c [12]] [(0,.slice a xs.length c),(1,.I k),(2,.I n),(7,.string z),(10,.P b25 0),(11,.string (outB (enc xs k n))),(12,.string ((tkB (enc xs k n) (fI k r))++((((⟨#[32]⟩:ByteArray)++(digB r))++(⟨#[58]⟩:ByteArray))++(hexB (rowAt (enc xs k n) r))))),(13,.string (((((⟨#[32]⟩:ByteArray)++(digB r))++(⟨#[58]⟩:ByteArray))++(hexB (rowAt (enc xs k n) r)))++(tkB (enc xs k n) (lI (n-k) r)))),(14,.I ((i:Int)+1)),(15,.I ((r:Int)+1)),(16,.I i)] ?_
           refine qG (sq 0 3) ?_
           refine qP 1 (sq 1 3) [(0,.slice a xs.length c),(1,.I k),(2,.I n),(7,.string z),(10,.P b25 0),(11,.string (outB (enc xs k n))),(12,.string ((tkB (enc xs k n) (fI k r))++((((⟨#[32]⟩:ByteArray)++(digB r))++(⟨#[58]⟩:ByteArray))++(hexB (rowAt (enc xs k n) r))))),(13,.string (((((⟨#[32]⟩:ByteArray)++(digB r))++(⟨#[58]⟩:ByteArray))++(hexB (rowAt (enc xs k n) r)))++(tkB (enc xs k n) (lI (n-k) r)))),(14,.I ((i:Int)+1)),(15,.I ((r:Int)+1)),(16,.I i),(81,.I i)] ?_
           refine qI .seq 82 (sq 2 3) ((i:Int)+1) ?_
           refine qF 1 [(0,.slice a xs.length c),(1,.I k),(2,.I n),(7,.string z),(10,.P b25 0),(11,.string (outB (enc xs k n))),(12,.string ((tkB (enc xs k n) (fI k r))++((((⟨#[32]⟩:ByteArray)++(digB r))++(⟨#[58]⟩:ByteArray))++(hexB (rowAt (enc xs k n) r))))),(13,.string (((((⟨#[32]⟩:ByteArray)++(digB r))++(⟨#[58]⟩:ByteArray))++(hexB (rowAt (enc xs k n) r)))++(tkB (enc xs k n) (lI (n-k) r)))),(14,.I ((i:Int)+1)),(15,.I ((r:Int)+1)),(16,.I ((i:Int)+1))] ?_
           exact WK.back (hback31 ((i+1),(i+1),(r+1),0) _ ⟨H,by rw[Nat.succ_mul,←hinv2.1];omega,by omega,by omega,by omega,by omega⟩ (by first|omega|(simp only[];omega))) (by dsimp only;first|(rw[fI_in (k:=k) (r:=r) (by omega),←tkB_snoc,lI_in (m:=n-k) (r:=r) (by omega),←tkB_cons];kernel_rfl)|(rw[fI_in (k:=k) (r:=r) (by omega),←tkB_snoc,lI_out (m:=n-k) (r:=r) (by omega)];kernel_rfl)|(rw[fI_out (k:=k) (r:=r) (by omega),lI_in (m:=n-k) (r:=r) (by omega),←tkB_cons];kernel_rfl)|(rw[fI_out (k:=k) (r:=r) (by omega),lI_out (m:=n-k) (r:=r) (by omega)];kernel_rfl))
          ·
           refine qR 2 [.c [11,0,1,0,0,1,0,0,4,0],.c [11,0,1,0,0,1,0,0,5],.b 3,.c [11,0,1,0,0,2],.l [11,0,1,0,0],.b 2,.c [12]] [(0,.slice a xs.length c),(1,.I k),(2,.I n),(7,.string z),(10,.P b25 0),(11,.string (outB (enc xs k n))),(12,.string ((tkB (enc xs k n) (fI k r))++((((⟨#[32]⟩:ByteArray)++(digB r))++(⟨#[58]⟩:ByteArray))++(hexB (rowAt (enc xs k n) r))))),(13,.string (tkB (enc xs k n) (lI (n-k) r))),(15,.I r),(16,.I i)] ?_
           refine qG (sq 0 3) ?_
           refine qP 1 (sq 1 3) [(0,.slice a xs.length c),(1,.I k),(2,.I n),(7,.string z),(10,.P b25 0),(11,.string (outB (enc xs k n))),(12,.string ((tkB (enc xs k n) (fI k r))++((((⟨#[32]⟩:ByteArray)++(digB r))++(⟨#[58]⟩:ByteArray))++(hexB (rowAt (enc xs k n) r))))),(13,.string (tkB (enc xs k n) (lI (n-k) r))),(15,.I r),(16,.I i),(110,.I i)] ?_
           refine qI .seq 111 (sq 2 3) ((i:Int)+1) ?_
           refine qF 1 [(0,.slice a xs.length c),(1,.I k),(2,.I n),(7,.string z),(10,.P b25 0),(11,.string (outB (enc xs k n))),(12,.string ((tkB (enc xs k n) (fI k r))++((((⟨#[32]⟩:ByteArray)++(digB r))++(⟨#[58]⟩:ByteArray))++(hexB (rowAt (enc xs k n) r))))),(13,.string (tkB (enc xs k n) (lI (n-k) r))),(14,.I ((i:Int)+1)),(15,.I r),(16,.I i)] ?_
           refine qG (sq 0 3) ?_
           refine qP 1 (sq 1 3) [(0,.slice a xs.length c),(1,.I k),(2,.I n),(7,.string z),(10,.P b25 0),(11,.string (outB (enc xs k n))),(12,.string ((tkB (enc xs k n) (fI k r))++((((⟨#[32]⟩:ByteArray)++(digB r))++(⟨#[58]⟩:ByteArray))++(hexB (rowAt (enc xs k n) r))))),(13,.string (tkB (enc xs k n) (lI (n-k) r))),(14,.I ((i:Int)+1)),(15,.I r),(16,.I i),(112,.I r)] ?_
           refine qI .seq 113 (sq 2 3) ((r:Int)+1) ?_
           refine qF 1 [(0,.slice a xs.length c),(1,.I k),(2,.I n),(7,.string z),(10,.P b25 0),(11,.string (outB (enc xs k n))),(12,.string ((tkB (enc xs k n) (fI k r))++((((⟨#[32]⟩:ByteArray)++(digB r))++(⟨#[58]⟩:ByteArray))++(hexB (rowAt (enc xs k n) r))))),(13,.string (tkB (enc xs k n) (lI (n-k) r))),(14,.I ((i:Int)+1)),(15,.I ((r:Int)+1)),(16,.I i)] ?_
           refine qR 1 [.c [11,0,1,0,0,2],.l [11,0,1,0,0],.b 2,.c [12]] [(0,.slice a xs.length c),(1,.I k),(2,.I n),(7,.string z),(10,.P b25 0),(11,.string (outB (enc xs k n))),(12,.string ((tkB (enc xs k n) (fI k r))++((((⟨#[32]⟩:ByteArray)++(digB r))++(⟨#[58]⟩:ByteArray))++(hexB (rowAt (enc xs k n) r))))),(13,.string (tkB (enc xs k n) (lI (n-k) r))),(14,.I ((i:Int)+1)),(15,.I ((r:Int)+1)),(16,.I i)] ?_
           refine qG (sq 0 3) ?_
           refine qP 1 (sq 1 3) [(0,.slice a xs.length c),(1,.I k),(2,.I n),(7,.string z),(10,.P b25 0),(11,.string (outB (enc xs k n))),(12,.string ((tkB (enc xs k n) (fI k r))++((((⟨#[32]⟩:ByteArray)++(digB r))++(⟨#[58]⟩:ByteArray))++(hexB (rowAt (enc xs k n) r))))),(13,.string (tkB (enc xs k n) (lI (n-k) r))),(14,.I ((i:Int)+1)),(15,.I ((r:Int)+1)),(16,.I i),(81,.I i)] ?_
           refine qI .seq 82 (sq 2 3) ((i:Int)+1) ?_
           refine qF 1 [(0,.slice a xs.length c),(1,.I k),(2,.I n),(7,.string z),(10,.P b25 0),(11,.string (outB (enc xs k n))),(12,.string ((tkB (enc xs k n) (fI k r))++((((⟨#[32]⟩:ByteArray)++(digB r))++(⟨#[58]⟩:ByteArray))++(hexB (rowAt (enc xs k n) r))))),(13,.string (tkB (enc xs k n) (lI (n-k) r))),(14,.I ((i:Int)+1)),(15,.I ((r:Int)+1)),(16,.I ((i:Int)+1))] ?_
           exact WK.back (hback31 ((i+1),(i+1),(r+1),0) _ ⟨H,by rw[Nat.succ_mul,←hinv2.1];omega,by omega,by omega,by omega,by omega⟩ (by first|omega|(simp only[];omega))) (by dsimp only;first|(rw[fI_in (k:=k) (r:=r) (by omega),←tkB_snoc,lI_in (m:=n-k) (r:=r) (by omega),←tkB_cons];kernel_rfl)|(rw[fI_in (k:=k) (r:=r) (by omega),←tkB_snoc,lI_out (m:=n-k) (r:=r) (by omega)];kernel_rfl)|(rw[fI_out (k:=k) (r:=r) (by omega),lI_in (m:=n-k) (r:=r) (by omega),←tkB_cons];kernel_rfl)|(rw[fI_out (k:=k) (r:=r) (by omega),lI_out (m:=n-k) (r:=r) (by omega)];kernel_rfl))
         ·
          refine qR 3 [.c [11,0,1,0,0,1,0,0,3,0,0],.c [11,0,1,0,0,1,0,0,3,0,1],.c [11,0,1,0,0,1,0,0,4],.b 3,.c [11,0,1,0,0,2],.l [11,0,1,0,0],.b 2,.c [12]] [(0,.slice a xs.length c),(1,.I k),(2,.I n),(7,.string z),(10,.P b25 0),(11,.string (outB (enc xs k n))),(12,.string (tkB (enc xs k n) (fI k r))),(13,.string (tkB (enc xs k n) (lI (n-k) r))),(15,.I r),(16,.I i),(17,.string ((((⟨#[32]⟩:ByteArray)++(digB r))++(⟨#[58]⟩:ByteArray))++(hexB (rowAt (enc xs k n) r))))] ?_
          refine qG (sq 0 5) ?_
          refine qP 3 (sq 3 5) [(0,.slice a xs.length c),(1,.I k),(2,.I n),(7,.string z),(10,.P b25 0),(11,.string (outB (enc xs k n))),(12,.string (tkB (enc xs k n) (fI k r))),(13,.string (tkB (enc xs k n) (lI (n-k) r))),(15,.I r),(16,.I i),(17,.string ((((⟨#[32]⟩:ByteArray)++(digB r))++(⟨#[58]⟩:ByteArray))++(hexB (rowAt (enc xs k n) r)))),(102,.I r),(103,.I n),(104,.I k)] ?_
          refine qI .seq 105 (sq 4 5) ((n:Int)-(k:Int)) ?_
          refine qF 1 [(0,.slice a xs.length c),(1,.I k),(2,.I n),(7,.string z),(10,.P b25 0),(11,.string (outB (enc xs k n))),(12,.string (tkB (enc xs k n) (fI k r))),(13,.string (tkB (enc xs k n) (lI (n-k) r))),(15,.I r),(16,.I i),(17,.string ((((⟨#[32]⟩:ByteArray)++(digB r))++(⟨#[58]⟩:ByteArray))++(hexB (rowAt (enc xs k n) r)))),(106,.bool (decide (((r:Int):Int)≥(n:Int)-(k:Int))))] ?_
          refine qD (((r:Int):Int)≥(n:Int)-(k:Int)) (fun h40=>?_) (fun h40=>?_)
          ·
           refine qG (sq 0 4) ?_
           refine qP 2 (sq 2 4) [(0,.slice a xs.length c),(1,.I k),(2,.I n),(7,.string z),(10,.P b25 0),(11,.string (outB (enc xs k n))),(12,.string (tkB (enc xs k n) (fI k r))),(13,.string (tkB (enc xs k n) (lI (n-k) r))),(15,.I r),(16,.I i),(107,.string ((((⟨#[32]⟩:ByteArray)++(digB r))++(⟨#[58]⟩:ByteArray))++(hexB (rowAt (enc xs k n) r)))),(108,.string (tkB (enc xs k n) (lI (n-k) r)))] ?_
           refine RW.readS (κ:=.seq) (d:=some 109) (r:=(sq 3 4)) (s:=semV (Op.stringOp .add ((((⟨#[32]⟩:ByteArray)++(digB r))++(⟨#[58]⟩:ByteArray))++(hexB (rowAt (enc xs k n) r))) (tkB (enc xs k n) (lI (n-k) r)))) (v:=.string (((((⟨#[32]⟩:ByteArray)++(digB r))++(⟨#[58]⟩:ByteArray))++(hexB (rowAt (enc xs k n) r)))++(tkB (enc xs k n) (lI (n-k) r)))) (by as_aux_lemma=>kernel_rfl) (fun w' _=>semV_run (run_string_add_sum w' _ _ ((by(try simp only[ByteArray.size_append,hl1,hl2,hl3,hl4,hl5])<;>omega)))) ?_
           refine qF 1 [(0,.slice a xs.length c),(1,.I k),(2,.I n),(7,.string z),(10,.P b25 0),(11,.string (outB (enc xs k n))),(12,.string (tkB (enc xs k n) (fI k r))),(13,.string (((((⟨#[32]⟩:ByteArray)++(digB r))++(⟨#[58]⟩:ByteArray))++(hexB (rowAt (enc xs k n) r)))++(tkB (enc xs k n) (lI (n-k) r)))),(15,.I r),(16,.I i)] ?_
           refine qR 1 [.c [11,0,1,0,0,1,0,0,4,0],.c [11,0,1,0,0,1,0,0,5],.b 3,.c [11,0,1,0,0,2],.l [11,0,1,0,0],.b 2,.c [12]] [(0,.slice a xs.length c),(1,.I k),(2,.I n),(7,.string z),(10,.P b25 0),(11,.string (outB (enc xs k n))),(12,.string (tkB (enc xs k n) (fI k r))),(13,.string (((((⟨#[32]⟩:ByteArray)++(digB r))++(⟨#[58]⟩:ByteArray))++(hexB (rowAt (enc xs k n) r)))++(tkB (enc xs k n) (lI (n-k) r)))),(15,.I r),(16,.I i)] ?_
           refine qG (sq 0 3) ?_
           refine qP 1 (sq 1 3) [(0,.slice a xs.length c),(1,.I k),(2,.I n),(7,.string z),(10,.P b25 0),(11,.string (outB (enc xs k n))),(12,.string (tkB (enc xs k n) (fI k r))),(13,.string (((((⟨#[32]⟩:ByteArray)++(digB r))++(⟨#[58]⟩:ByteArray))++(hexB (rowAt (enc xs k n) r)))++(tkB (enc xs k n) (lI (n-k) r)))),(15,.I r),(16,.I i),(110,.I i)] ?_
           refine qI .seq 111 (sq 2 3) ((i:Int)+1) ?_
           refine qF 1 [(0,.slice a xs.length c),(1,.I k),(2,.I n),(7,.string z),(10,.P b25 0),(11,.string (outB (enc xs k n))),(12,.string (tkB (enc xs k n) (fI k r))),(13,.string (((((⟨#[32]⟩:ByteArray)++(digB r))++(⟨#[58]⟩:ByteArray))++(hexB (rowAt (enc xs k n) r)))++(tkB (enc xs k n) (lI (n-k) r)))),(14,.I ((i:Int)+1)),(15,.I r),(16,.I i)] ?_
           refine qG (sq 0 3) ?_
           refine qP 1 (sq 1 3) [(0,.slice a xs.length c),(1,.I k),(2,.I n),(7,.string z),(10,.P b25 0),(11,.string (outB (enc xs k n))),(12,.string (tkB (enc xs k n) (fI k r))),(13,.string (((((⟨#[32]⟩:ByteArray)++(digB r))++(⟨#[58]⟩:ByteArray))++(hexB (rowAt (enc xs k n) r)))++(tkB (enc xs k n) (lI (n-k) r)))),(14,.I ((i:Int)+1)),(15,.I r),(16,.I i),(112,.I r)] ?_
           refine qI .seq 113 (sq 2 3) ((r:Int)+1) ?_
           refine qF 1 [(0,.slice a xs.length c),(1,.I k),(2,.I n),(7,.string z),(10,.P b25 0),(11,.string (outB (enc xs k n))),(12,.string (tkB (enc xs k n) (fI k r))),(13,.string (((((⟨#[32]⟩:ByteArray)++(digB r))++(⟨#[58]⟩:ByteArray))++(hexB (rowAt (enc xs k n) r)))++(tkB (enc xs k n) (lI (n-k) r)))),(14,.I ((i:Int)+1)),(15,.I ((r:Int)+1)),(16,.I i)] ?_
           refine qR 1 [.c [11,0,1,0,0,2],.l [11,0,1,0,0],.b 2,.c [12]] [(0,.slice a xs.length c),(1,.I k),(2,.I n),(7,.string z),(10,.P b25 0),(11,.string (outB (enc xs k n))),(12,.string (tkB (enc xs k n) (fI k r))),(13,.string (((((⟨#[32]⟩:ByteArray)++(digB r))++(⟨#[58]⟩:ByteArray))++(hexB (rowAt (enc xs k n) r)))++(tkB (enc xs k n) (lI (n-k) r)))),(14,.I ((i:Int)+1)),(15,.I ((r:Int)+1)),(16,.I i)] ?_
           refine qG (sq 0 3) ?_
           refine qP 1 (sq 1 3) [(0,.slice a xs.length c),(1,.I k),(2,.I n),(7,.string z),(10,.P b25 0),(11,.string (outB (enc xs k n))),(12,.string (tkB (enc xs k n) (fI k r))),(13,.string (((((⟨#[32]⟩:ByteArray)++(digB r))++(⟨#[58]⟩:ByteArray))++(hexB (rowAt (enc xs k n) r)))++(tkB (enc xs k n) (lI (n-k) r)))),(14,.I ((i:Int)+1)),(15,.I ((r:Int)+1)),(16,.I i),(81,.I i)] ?_
           refine qI .seq 82 (sq 2 3) ((i:Int)+1) ?_
           refine qF 1 [(0,.slice a xs.length c),(1,.I k),(2,.I n),(7,.string z),(10,.P b25 0),(11,.string (outB (enc xs k n))),(12,.string (tkB (enc xs k n) (fI k r))),(13,.string (((((⟨#[32]⟩:ByteArray)++(digB r))++(⟨#[58]⟩:ByteArray))++(hexB (rowAt (enc xs k n) r)))++(tkB (enc xs k n) (lI (n-k) r)))),(14,.I ((i:Int)+1)),(15,.I ((r:Int)+1)),(16,.I ((i:Int)+1))] ?_
           exact WK.back (hback31 ((i+1),(i+1),(r+1),0) _ ⟨H,by rw[Nat.succ_mul,←hinv2.1];omega,by omega,by omega,by omega,by omega⟩ (by first|omega|(simp only[];omega))) (by dsimp only;first|(rw[fI_in (k:=k) (r:=r) (by omega),←tkB_snoc,lI_in (m:=n-k) (r:=r) (by omega),←tkB_cons];kernel_rfl)|(rw[fI_in (k:=k) (r:=r) (by omega),←tkB_snoc,lI_out (m:=n-k) (r:=r) (by omega)];kernel_rfl)|(rw[fI_out (k:=k) (r:=r) (by omega),lI_in (m:=n-k) (r:=r) (by omega),←tkB_cons];kernel_rfl)|(rw[fI_out (k:=k) (r:=r) (by omega),lI_out (m:=n-k) (r:=r) (by omega)];kernel_rfl))
          ·
           refine qR 2 [.c [11,0,1,0,0,1,0,0,4,0],.c [11,0,1,0,0,1,0,0,5],.b 3,.c [11,0,1,0,0,2],.l [11,0,1,0,0],.b 2,.c [12]] [(0,.slice a xs.length c),(1,.I k),(2,.I n),(7,.string z),(10,.P b25 0),(11,.string (outB (enc xs k n))),(12,.string (tkB (enc xs k n) (fI k r))),(13,.string (tkB (enc xs k n) (lI (n-k) r))),(15,.I r),(16,.I i)] ?_
           refine qG (sq 0 3) ?_
           refine qP 1 (sq 1 3) [(0,.slice a xs.length c),(1,.I k),(2,.I n),(7,.string z),(10,.P b25 0),(11,.string (outB (enc xs k n))),(12,.string (tkB (enc xs k n) (fI k r))),(13,.string (tkB (enc xs k n) (lI (n-k) r))),(15,.I r),(16,.I i),(110,.I i)] ?_
           refine qI .seq 111 (sq 2 3) ((i:Int)+1) ?_
           refine qF 1 [(0,.slice a xs.length c),(1,.I k),(2,.I n),(7,.string z),(10,.P b25 0),(11,.string (outB (enc xs k n))),(12,.string (tkB (enc xs k n) (fI k r))),(13,.string (tkB (enc xs k n) (lI (n-k) r))),(14,.I ((i:Int)+1)),(15,.I r),(16,.I i)] ?_
           refine qG (sq 0 3) ?_
           refine qP 1 (sq 1 3) [(0,.slice a xs.length c),(1,.I k),(2,.I n),(7,.string z),(10,.P b25 0),(11,.string (outB (enc xs k n))),(12,.string (tkB (enc xs k n) (fI k r))),(13,.string (tkB (enc xs k n) (lI (n-k) r))),(14,.I ((i:Int)+1)),(15,.I r),(16,.I i),(112,.I r)] ?_
           refine qI .seq 113 (sq 2 3) ((r:Int)+1) ?_
           refine qF 1 [(0,.slice a xs.length c),(1,.I k),(2,.I n),(7,.string z),(10,.P b25 0),(11,.string (outB (enc xs k n))),(12,.string (tkB (enc xs k n) (fI k r))),(13,.string (tkB (enc xs k n) (lI (n-k) r))),(14,.I ((i:Int)+1)),(15,.I ((r:Int)+1)),(16,.I i)] ?_
           refine qR 1 [.c [11,0,1,0,0,2],.l [11,0,1,0,0],.b 2,.c [12]] [(0,.slice a xs.length c),(1,.I k),(2,.I n),(7,.string z),(10,.P b25 0),(11,.string (outB (enc xs k n))),(12,.string (tkB (enc xs k n) (fI k r))),(13,.string (tkB (enc xs k n) (lI (n-k) r))),(14,.I ((i:Int)+1)),(15,.I ((r:Int)+1)),(16,.I i)] ?_
           refine qG (sq 0 3) ?_
           refine qP 1 (sq 1 3) [(0,.slice a xs.length c),(1,.I k),(2,.I n),(7,.string z),(10,.P b25 0),(11,.string (outB (enc xs k n))),(12,.string (tkB (enc xs k n) (fI k r))),(13,.string (tkB (enc xs k n) (lI (n-k) r))),(14,.I ((i:Int)+1)),(15,.I ((r:Int)+1)),(16,.I i),(81,.I i)] ?_
           refine qI .seq 82 (sq 2 3) ((i:Int)+1) ?_
           refine qF 1 [(0,.slice a xs.length c),(1,.I k),(2,.I n),(7,.string z),(10,.P b25 0),(11,.string (outB (enc xs k n))),(12,.string (tkB (enc xs k n) (fI k r))),(13,.string (tkB (enc xs k n) (lI (n-k) r))),(14,.I ((i:Int)+1)),(15,.I ((r:Int)+1)),(16,.I ((i:Int)+1))] ?_
           exact WK.back (hback31 ((i+1),(i+1),(r+1),0) _ ⟨H,by rw[Nat.succ_mul,←hinv2.1];omega,by omega,by omega,by omega,by omega⟩ (by first|omega|(simp only[];omega))) (by dsimp only;first|(rw[fI_in (k:=k) (r:=r) (by omega),←tkB_snoc,lI_in (m:=n-k) (r:=r) (by omega),←tkB_cons];kernel_rfl)|(rw[fI_in (k:=k) (r:=r) (by omega),←tkB_snoc,lI_out (m:=n-k) (r:=r) (by omega)];kernel_rfl)|(rw[fI_out (k:=k) (r:=r) (by omega),lI_in (m:=n-k) (r:=r) (by omega),←tkB_cons];kernel_rfl)|(rw[fI_out (k:=k) (r:=r) (by omega),lI_out (m:=n-k) (r:=r) (by omega)];kernel_rfl))
       ·
        have hrn:r=n:=row_end (W:=h9+1) (j:=j) (by rw[←hinv2.1,←hT];omega) (by omega)
        refine qR 2 [.c [12,0],.c [13]] [(0,.slice a xs.length c),(1,.I k),(2,.I n),(7,.string z),(10,.P b25 0),(12,.string (tkB (enc xs k n) (fI k r))),(13,.string (tkB (enc xs k n) (lI (n-k) r))),(15,.I r)] ?_
        refine qG (sq 0 13) ?_
        refine qP 1 (sq 1 13) [(0,.slice a xs.length c),(2,.I n),(7,.string z),(10,.P b25 0),(12,.string (tkB (enc xs k n) (fI k r))),(13,.string (tkB (enc xs k n) (lI (n-k) r))),(15,.I r),(114,.I k)] ?_
        refine qK .seq (some 115) (sq 2 13) 9 #[.I k] (num_spec (S:=fun _=>True) (n:=k) (by omega)) ?_
        rintro _ w41 hE42 rfl
        have H:=H.ext hE42
        refine RW.readS (κ:=.seq) (d:=some 116) (r:=(sq 3 13)) (s:=semV (Op.stringOp .add (⟨#[100,101,99,111,100,101,32]⟩:ByteArray) (digB k))) (v:=.string ((⟨#[100,101,99,111,100,101,32]⟩:ByteArray)++(digB k))) (by as_aux_lemma=>kernel_rfl) (fun w' _=>semV_run (run_string_add_sum w' _ _ ((by(try simp only[ByteArray.size_append,hl1,hl2,hl3,hl4,hl5])<;>omega)))) ?_
        refine RW.readS (κ:=.seq) (d:=some 117) (r:=(sq 4 13)) (s:=semV (Op.stringOp .add ((⟨#[100,101,99,111,100,101,32]⟩:ByteArray)++(digB k)) (⟨#[32]⟩:ByteArray))) (v:=.string (((⟨#[100,101,99,111,100,101,32]⟩:ByteArray)++(digB k))++(⟨#[32]⟩:ByteArray))) (by as_aux_lemma=>kernel_rfl) (fun w' _=>semV_run (run_string_add_sum w' _ _ ((by(try simp only[ByteArray.size_append,hl1,hl2,hl3,hl4,hl5])<;>omega)))) ?_
        refine qP 1 (sq 5 13) [(0,.slice a xs.length c),(2,.I n),(7,.string z),(10,.P b25 0),(12,.string (tkB (enc xs k n) (fI k r))),(13,.string (tkB (enc xs k n) (lI (n-k) r))),(15,.I r),(117,.string (((⟨#[100,101,99,111,100,101,32]⟩:ByteArray)++(digB k))++(⟨#[32]⟩:ByteArray))),(118,.I n)] ?_
        refine qK .seq (some 119) (sq 6 13) 9 #[.I n] (num_spec (S:=fun _=>True) (n:=n) (by omega)) ?_
        rintro _ w43 hE44 rfl
        have H:=H.ext hE44
        refine RW.readS (κ:=.seq) (d:=some 120) (r:=(sq 7 13)) (s:=semV (Op.stringOp .add (((⟨#[100,101,99,111,100,101,32]⟩:ByteArray)++(digB k))++(⟨#[32]⟩:ByteArray)) (digB n))) (v:=.string ((((⟨#[100,101,99,111,100,101,32]⟩:ByteArray)++(digB k))++(⟨#[32]⟩:ByteArray))++(digB n))) (by as_aux_lemma=>kernel_rfl) (fun w' _=>semV_run (run_string_add_sum w' _ _ ((by(try simp only[ByteArray.size_append,hl1,hl2,hl3,hl4,hl5])<;>omega)))) ?_
        refine RW.readS (κ:=.seq) (d:=some 121) (r:=(sq 8 13)) (s:=semV (Op.stringOp .add ((((⟨#[100,101,99,111,100,101,32]⟩:ByteArray)++(digB k))++(⟨#[32]⟩:ByteArray))++(digB n)) (⟨#[32]⟩:ByteArray))) (v:=.string (((((⟨#[100,101,99,111,100,101,32]⟩:ByteArray)++(digB k))++(⟨#[32]⟩:ByteArray))++(digB n))++(⟨#[32]⟩:ByteArray))) (by as_aux_lemma=>kernel_rfl) (fun w' _=>semV_run (run_string_add_sum w' _ _ ((by(try simp only[ByteArray.size_append,hl1,hl2,hl3,hl4,hl5])<;>omega)))) ?_
        refine qP 2 (sq 10 13) [(2,.I n),(7,.string z),(10,.P b25 0),(12,.string (tkB (enc xs k n) (fI k r))),(13,.string (tkB (enc xs k n) (lI (n-k) r))),(15,.I r),(121,.string (((((⟨#[100,101,99,111,100,101,32]⟩:ByteArray)++(digB k))++(⟨#[32]⟩:ByteArray))++(digB n))++(⟨#[32]⟩:ByteArray))),(123,.I ((xs.length:Nat):Int))] ?_
        refine qK .seq (some 124) (sq 11 13) 9 #[.I ((xs.length:Nat):Int)] (num_spec (S:=fun _=>True) (n:=xs.length) (by omega)) ?_
        rintro _ w45 hE46 rfl
        have H:=H.ext hE46
        refine RW.readS (κ:=.seq) (d:=some 125) (r:=(sq 12 13)) (s:=semV (Op.stringOp .add (((((⟨#[100,101,99,111,100,101,32]⟩:ByteArray)++(digB k))++(⟨#[32]⟩:ByteArray))++(digB n))++(⟨#[32]⟩:ByteArray)) (digB xs.length))) (v:=.string ((((((⟨#[100,101,99,111,100,101,32]⟩:ByteArray)++(digB k))++(⟨#[32]⟩:ByteArray))++(digB n))++(⟨#[32]⟩:ByteArray))++(digB xs.length))) (by as_aux_lemma=>kernel_rfl) (fun w' _=>semV_run (run_string_add_sum w' _ _ ((by(try simp only[ByteArray.size_append,hl1,hl2,hl3,hl4,hl5])<;>omega)))) ?_
        refine qF 1 [(2,.I n),(7,.string z),(10,.P b25 0),(12,.string (tkB (enc xs k n) (fI k r))),(13,.string (tkB (enc xs k n) (lI (n-k) r))),(15,.I r),(18,.string ((((((⟨#[100,101,99,111,100,101,32]⟩:ByteArray)++(digB k))++(⟨#[32]⟩:ByteArray))++(digB n))++(⟨#[32]⟩:ByteArray))++(digB xs.length)))] ?_
        refine qR 1 [.c [13,0],.c [14]] [(2,.I n),(7,.string z),(10,.P b25 0),(12,.string (tkB (enc xs k n) (fI k r))),(13,.string (tkB (enc xs k n) (lI (n-k) r))),(15,.I r),(18,.string ((((((⟨#[100,101,99,111,100,101,32]⟩:ByteArray)++(digB k))++(⟨#[32]⟩:ByteArray))++(digB n))++(⟨#[32]⟩:ByteArray))++(digB xs.length)))] ?_
        refine qG (sq 0 27) ?_
        refine qP 4 (sq 4 27) [(7,.string z),(10,.P b25 0),(12,.string (tkB (enc xs k n) (fI k r))),(13,.string (tkB (enc xs k n) (lI (n-k) r))),(18,.string ((((((⟨#[100,101,99,111,100,101,32]⟩:ByteArray)++(digB k))++(⟨#[32]⟩:ByteArray))++(digB n))++(⟨#[32]⟩:ByteArray))++(digB xs.length))),(129,.bool ((r:Int)==(n:Int)))] ?_
        refine tE (fun b_=>[(7,.string z),(10,.P b25 0),(12,.string (tkB (enc xs k n) (fI k r))),(13,.string (tkB (enc xs k n) (lI (n-k) r))),(18,.string ((((((⟨#[100,101,99,111,100,101,32]⟩:ByteArray)++(digB k))++(⟨#[32]⟩:ByteArray))++(digB n))++(⟨#[32]⟩:ByteArray))++(digB xs.length))),(129,.bool b_)]) (r:Int) (n:Int) (fun h47=>?_) (fun h47=>?_)
        ·
         refine qP 3 (sq 7 27) [(7,.string z),(10,.P b25 0),(13,.string (tkB (enc xs k n) (lI (n-k) r))),(18,.string ((((((⟨#[100,101,99,111,100,101,32]⟩:ByteArray)++(digB k))++(⟨#[32]⟩:ByteArray))++(digB n))++(⟨#[32]⟩:ByteArray))++(digB xs.length))),(129,.bool true),(130,.P b25 0),(131,.string ((((((⟨#[100,101,99,111,100,101,32]⟩:ByteArray)++(digB k))++(⟨#[32]⟩:ByteArray))++(digB n))++(⟨#[32]⟩:ByteArray))++(digB xs.length))),(132,.string (tkB (enc xs k n) (fI k r)))] ?_
         refine RW.readS (κ:=.seq) (d:=some 133) (r:=(sq 8 27)) (s:=semV (Op.stringOp .add ((((((⟨#[100,101,99,111,100,101,32]⟩:ByteArray)++(digB k))++(⟨#[32]⟩:ByteArray))++(digB n))++(⟨#[32]⟩:ByteArray))++(digB xs.length)) (tkB (enc xs k n) (fI k r)))) (v:=.string (((((((⟨#[100,101,99,111,100,101,32]⟩:ByteArray)++(digB k))++(⟨#[32]⟩:ByteArray))++(digB n))++(⟨#[32]⟩:ByteArray))++(digB xs.length))++(tkB (enc xs k n) (fI k r)))) (by as_aux_lemma=>kernel_rfl) (fun w' _=>semV_run (run_string_add_sum w' _ _ ((by(try simp only[ByteArray.size_append,hl1,hl2,hl3,hl4,hl5])<;>omega)))) ?_
         refine RW.callS (d:=some 134) (r:=(sq 9 27)) (g:=7) (args:=#[.P b25 0,.string (((((((⟨#[100,101,99,111,100,101,32]⟩:ByteArray)++(digB k))++(⟨#[32]⟩:ByteArray))++(digB n))++(⟨#[32]⟩:ByteArray))++(digB xs.length))++(tkB (enc xs k n) (fI k r)))]) (by as_aux_lemma=>kernel_rfl) (do_decode_g hk hkn hn hxl (ids:=fI k r) (fun i hi=>by have:=fI_lt i hi;omega) (fI_nd _ _) (by rw[hrn,fI_len hkn];exact Nat.le_refl _) (by have:=fI_le k r;omega) (by(try simp only[ByteArray.size_append,hl1,hl2,hl3,hl4,hl5])<;>omega) (by rw[deco7];exact words_deco) ((H.lend (M1:=[(b25,.cells #[.bool true,.int .u64 1,.slice none 0 0,.pointer none] 38 (0,0))]) (W1:=[])).pick [1] rfl)) ?_
         rintro _ w48⟨rfl,H'⟩
         have H:=H.back (M1:=[(b25,.cells #[.bool true,.int .u64 1,.slice none 0 0,.pointer none] 38 (0,0))]) (W1:=[]) H'
         have H:Hp w S [] [(b25,.cells #[.bool true,.int .u64 1,.slice none 0 0,.pointer none] 38 (0,0))] [] [Rp SB [.slice a xs.length c] xs,Fz cQ] _:=H
         refine qP 1 (sq 10 27) [(7,.string z),(10,.P b25 0),(13,.string (tkB (enc xs k n) (lI (n-k) r))),(18,.string ((((((⟨#[100,101,99,111,100,101,32]⟩:ByteArray)++(digB k))++(⟨#[32]⟩:ByteArray))++(digB n))++(⟨#[32]⟩:ByteArray))++(digB xs.length))),(129,.bool true),(134,.string (hexB xs++(⟨#[10]⟩:ByteArray))),(135,.string z)] ?_
         refine RW.readS (κ:=.seq) (d:=some 136) (r:=(sq 11 27)) (s:=semV (Op.stringOp .add z (⟨#[10]⟩:ByteArray))) (v:=.string (z++(⟨#[10]⟩:ByteArray))) (by as_aux_lemma=>kernel_rfl) (fun w' _=>semV_run (run_string_add_sum w' _ _ ((by(try simp only[ByteArray.size_append,hl1,hl2,hl3,hl4,hl5])<;>omega)))) ?_
         refine qP 3 (sq 14 27) [(7,.string z),(10,.P b25 0),(13,.string (tkB (enc xs k n) (lI (n-k) r))),(18,.string ((((((⟨#[100,101,99,111,100,101,32]⟩:ByteArray)++(digB k))++(⟨#[32]⟩:ByteArray))++(digB n))++(⟨#[32]⟩:ByteArray))++(digB xs.length))),(139,.bool ((hexB xs++(⟨#[10]⟩:ByteArray)).toList==(z++(⟨#[10]⟩:ByteArray)).toList))] ?_
         refine tE (fun b_=>[(7,.string z),(10,.P b25 0),(13,.string (tkB (enc xs k n) (lI (n-k) r))),(18,.string ((((((⟨#[100,101,99,111,100,101,32]⟩:ByteArray)++(digB k))++(⟨#[32]⟩:ByteArray))++(digB n))++(⟨#[32]⟩:ByteArray))++(digB xs.length))),(139,.bool b_)]) ((hexB xs++(⟨#[10]⟩:ByteArray)).toList) ((z++(⟨#[10]⟩:ByteArray)).toList) (fun h49=>?_) (fun h49=>?_)
         ·
          refine qP 3 (sq 17 27) [(7,.string z),(139,.bool true),(140,.P b25 0),(141,.string ((((((⟨#[100,101,99,111,100,101,32]⟩:ByteArray)++(digB k))++(⟨#[32]⟩:ByteArray))++(digB n))++(⟨#[32]⟩:ByteArray))++(digB xs.length))),(142,.string (tkB (enc xs k n) (lI (n-k) r)))] ?_
          refine RW.readS (κ:=.seq) (d:=some 143) (r:=(sq 18 27)) (s:=semV (Op.stringOp .add ((((((⟨#[100,101,99,111,100,101,32]⟩:ByteArray)++(digB k))++(⟨#[32]⟩:ByteArray))++(digB n))++(⟨#[32]⟩:ByteArray))++(digB xs.length)) (tkB (enc xs k n) (lI (n-k) r)))) (v:=.string (((((((⟨#[100,101,99,111,100,101,32]⟩:ByteArray)++(digB k))++(⟨#[32]⟩:ByteArray))++(digB n))++(⟨#[32]⟩:ByteArray))++(digB xs.length))++(tkB (enc xs k n) (lI (n-k) r)))) (by as_aux_lemma=>kernel_rfl) (fun w' _=>semV_run (run_string_add_sum w' _ _ ((by(try simp only[ByteArray.size_append,hl1,hl2,hl3,hl4,hl5])<;>omega)))) ?_
          refine RW.callS (d:=some 144) (r:=(sq 19 27)) (g:=7) (args:=#[.P b25 0,.string (((((((⟨#[100,101,99,111,100,101,32]⟩:ByteArray)++(digB k))++(⟨#[32]⟩:ByteArray))++(digB n))++(⟨#[32]⟩:ByteArray))++(digB xs.length))++(tkB (enc xs k n) (lI (n-k) r)))]) (by as_aux_lemma=>kernel_rfl) (do_decode_g hk hkn hn hxl (ids:=lI (n-k) r) (fun i hi=>by have:=lI_lt i hi;omega) (lI_nd _ _) (by rw[hrn,lI_len hkn];exact Nat.le_refl _) (by have:=lI_le (n-k) r;omega) (by(try simp only[ByteArray.size_append,hl1,hl2,hl3,hl4,hl5])<;>omega) (by rw[deco7];exact words_deco) ((H.lend (M1:=[(b25,.cells #[.bool true,.int .u64 1,.slice none 0 0,.pointer none] 38 (0,0))]) (W1:=[])).pick [1] rfl)) ?_
          rintro _ w50⟨rfl,H'⟩
          have H:=H.back (M1:=[(b25,.cells #[.bool true,.int .u64 1,.slice none 0 0,.pointer none] 38 (0,0))]) (W1:=[]) H'
          have H:Hp w S [] [(b25,.cells #[.bool true,.int .u64 1,.slice none 0 0,.pointer none] 38 (0,0))] [] [Rp SB [.slice a xs.length c] xs,Fz cQ] _:=H
          refine qP 1 (sq 20 27) [(139,.bool true),(144,.string (hexB xs++(⟨#[10]⟩:ByteArray))),(145,.string z)] ?_
          refine RW.readS (κ:=.seq) (d:=some 146) (r:=(sq 21 27)) (s:=semV (Op.stringOp .add z (⟨#[10]⟩:ByteArray))) (v:=.string (z++(⟨#[10]⟩:ByteArray))) (by as_aux_lemma=>kernel_rfl) (fun w' _=>semV_run (run_string_add_sum w' _ _ ((by(try simp only[ByteArray.size_append,hl1,hl2,hl3,hl4,hl5])<;>omega)))) ?_
          refine qP 3 (sq 24 27) [(149,.bool ((hexB xs++(⟨#[10]⟩:ByteArray)).toList==(z++(⟨#[10]⟩:ByteArray)).toList))] ?_
          refine tE (fun b_=>[(149,.bool b_)]) ((hexB xs++(⟨#[10]⟩:ByteArray)).toList) ((z++(⟨#[10]⟩:ByteArray)).toList) (fun h51=>?_) (fun h51=>?_)
          ·
           refine qK .seq (some 150) (sq 25 27) 8 #[] (heads_spec (H.fact 1 rfl)) ?_
           rintro _ w52 hE53 rfl
           have H:=H.ext hE53
           refine qF 2 [(6,.bool true)] ?_
           refine qT (.bool true) Tryz.func4 ?_
           exact⟨_,rfl,H.done,rfl⟩
          ·
           exact absurd (by rw[hz7]) h51
         ·
          exact absurd (by rw[hz7]) h49
        ·
         omega
theorem codes_spec{S:Nat→Prop}{w:World}{xs:List (BitVec 8)}{a:Option Addr}{c:Nat}(k n:Int)(h:(Rp SB [.slice a xs.length c] xs).p S w)(hq:(Fz cQ).p S w):Calls Tryz.prog 4 #[.slice a xs.length c,.I k,.I n] w (Ret fun v w'=>Ext w w'∧v=.bool true):=by
 by_cases hg:1≤k∧k≤n∧n≤9∧xs.length≤200
 · obtain⟨k', rfl⟩: ∃ k' :Nat,k=k':=⟨k.toNat,by omega⟩
   obtain⟨n',rfl⟩:∃n':Nat,n=n':=⟨n.toNat,by omega⟩
   exact codes_yes h (by omega) (by omega) (by omega) (by omega) hq
 ·exact codes_no hg hq
end Go.Proofs.YtcafjhnjhhicdaaGreatDoor
