import Derived.Test.YtcafjhnjhhicdaaGreatDoorSK0
namespace Go.Proofs.YtcafjhnjhhicdaaGreatDoor
open Go.BX
def xt(a:BitVec 8):BitVec 8:=if((a.toNat:Nat):Int)≥128 then(a<<<1)^^^29#8 else a<<<1
def gm:Nat→BitVec 8→BitVec 8→BitVec 8
 |0,_,_=>0#8
 |n+1,a,b=>(if(((b&&&1#8).toNat:Nat):Int)>0 then a else 0#8)^^^gm n (xt a) (b>>>1)
def gmul(a b:BitVec 8):BitVec 8:=gm 8 a b
theorem gm_zero:∀(n:Nat)(a:BitVec 8),gm n a 0#8=0#8
 |0,_=>rfl
 |n+1,a=>by
  show(if(((0#8&&&1#8).toNat:Nat):Int)>0 then a else 0#8)^^^gm n (xt a) (0#8>>>1)=0#8
  have e:(0#8>>>1:BitVec 8)=0#8:=by decide
  rw[e,gm_zero n,if_neg (by decide)]
  decide
theorem gm_step{n:Nat}{a b r:BitVec 8}(hn:0<n):r^^^gm n a b=(r^^^(if(((b&&&1#8).toNat:Nat):Int)>0 then a else 0#8))^^^gm (n-1) (xt a) (b>>>1):=by
 obtain⟨m,rfl⟩:∃m,n=m+1:=⟨n-1,by omega⟩
 show r^^^((if(((b&&&1#8).toNat:Nat):Int)>0 then a else 0#8)^^^gm m (xt a) (b>>>1))=_
 rw[Nat.add_sub_cancel,BitVec.xor_assoc]
theorem shr_lt{b:BitVec 8}{n:Nat}(h:b.toNat<2^n)(hn:0<n):(b>>>1).toNat<2^(n-1):=by
 obtain⟨m,rfl⟩:∃m,n=m+1:=⟨n-1,by omega⟩
 rw[BitVec.toNat_ushiftRight,Nat.shiftRight_eq_div_pow,Nat.add_sub_cancel]
 rw[Nat.pow_succ]at h
 omega
theorem bv_zero_of{b:BitVec 8}(h:¬((b.toNat:Nat):Int)>0):b=0#8:=by
 apply BitVec.eq_of_toNat_eq
 have:(0#8).toNat=0:=rfl
 omega
theorem pow_pos_of{b:BitVec 8}{n:Nat}(h:b.toNat<2^n)(hb:((b.toNat:Nat):Int)>0):0<n:=by
 rcases Nat.eq_zero_or_pos n with rfl|h0
 ·simp at h;omega
 ·exact h0
theorem xt_eq(a:BitVec 8):xt a=(a<<<1)^^^(if a.msb then 29#8 else 0#8):=by
 unfold xt
 have e:a.msb=decide (((a.toNat:Nat):Int)≥128):=by
  rw[BitVec.msb_eq_decide]
  exact decide_eq_decide.2 (by omega)
 rw[e]
 by_cases h:((a.toNat:Nat):Int)≥128<;>simp[h]
theorem xt_xor(a b:BitVec 8):xt (a^^^b)=xt a^^^xt b:=by
 rw[xt_eq,xt_eq,xt_eq,BitVec.msb_xor,BitVec.shiftLeft_xor_distrib]
 generalize a<<<1=x
 generalize b<<<1=y
 cases a.msb<;>cases b.msb
 ·simp
 · simp[BitVec.xor_assoc]
 · simp only[Bool.xor_false, if_true,if_false,Bool.false_eq_true]
   rw[BitVec.xor_assoc,BitVec.xor_assoc, BitVec.xor_zero, BitVec.xor_comm y]
 · simp only[Bool.xor_self,if_true,if_false,Bool.false_eq_true,BitVec.xor_zero]
   rw[BitVec.xor_assoc,BitVec.xor_comm y,←BitVec.xor_assoc (29#8),BitVec.xor_self,BitVec.zero_xor]
theorem gm_xor:∀(n:Nat)(a a' b:BitVec 8),gm n (a^^^a') b=gm n a b^^^gm n a' b
 |0,_,_,_=>by
  show 0#8=0#8^^^0#8
  decide
 |n+1,a,a',b=>by
  show(if(((b&&&1#8).toNat:Nat):Int)>0 then a^^^a' else 0#8)^^^gm n (xt (a^^^a')) (b>>>1)=((if(((b&&&1#8).toNat:Nat):Int)>0 then a else 0#8)^^^gm n (xt a) (b>>>1))^^^((if(((b&&&1#8).toNat:Nat):Int)>0 then a' else 0#8)^^^gm n (xt a') (b>>>1))
  rw[xt_xor,gm_xor n]
  generalize gm n (xt a) (b>>>1)=p
  generalize gm n (xt a') (b>>>1)=q
  split
  ·rw[BitVec.xor_assoc,BitVec.xor_assoc,←BitVec.xor_assoc a',BitVec.xor_comm a',BitVec.xor_assoc p]
  ·simp
theorem gmul_xor(a a' b:BitVec 8):gmul (a^^^a') b=gmul a b^^^gmul a' b:=gm_xor 8 a a' b
theorem gm_zero_l:∀(n:Nat)(b:BitVec 8),gm n 0#8 b=0#8:=fun n b=>by
 have:=gm_xor n 0#8 0#8 b
 rw[show(0#8^^^0#8:BitVec 8)=0#8 by decide,BitVec.xor_self]at this
 exact this
theorem gmul_zero_l(b:BitVec 8):gmul 0#8 b=0#8:=gm_zero_l 8 b
theorem gmul_zero_r(a:BitVec 8):gmul a 0#8=0#8:=gm_zero 8 a
def prodsTo(m:Nat)(c:BitVec 8):List (BitVec 8):=(List.range 256).map fun k=>if k<m then gmul (BitVec.ofNat 8 k) c else 0#8
def prods(c:BitVec 8):List (BitVec 8):=(List.range 256).map fun k=>gmul (BitVec.ofNat 8 k) c
theorem prodsTo_len(m:Nat)(c:BitVec 8):(prodsTo m c).length=256:=by simp[prodsTo]
theorem prods_len(c:BitVec 8):(prods c).length=256:=by simp[prods]
theorem prodsTo_one(c:BitVec 8):List.replicate 256 0#8=prodsTo 1 c:=by
 apply List.ext_getElem (by rw[List.length_replicate,prodsTo_len])
 intro i h1 h2
 simp only[prodsTo,List.getElem_replicate,List.getElem_map,List.getElem_range]
 split
 · rename_i h
   have:i=0:=by omega
   subst this
   exact(gmul_zero_l c).symm
 ·rfl
theorem prodsTo_all(c:BitVec 8):prodsTo 256 c=prods c:=by
 unfold prodsTo prods
 refine List.map_congr_left fun k hk=>if_pos (List.mem_range.1 hk)
theorem ofNat_xor:∀s<8,∀j<2^s,BitVec.ofNat 8 (2^s+j)=BitVec.ofNat 8 j^^^BitVec.ofNat 8 (2^s):=by decide
theorem prodsTo_get{m k:Nat}{c:BitVec 8}(h:k<m)(hk:k<(prodsTo m c).length):(prodsTo m c)[k]=gmul (BitVec.ofNat 8 k) c:=by
 simp[prodsTo,h]
theorem prods_get{x c:BitVec 8}(hk:x.toNat<(prods c).length):(prods c)[x.toNat]=gmul x c:=by
 simp[prods]
theorem prodsTo_set{m k j s:Nat}{c:BitVec 8}(hs:s<8)(hm:m=2^s)(hk:k<m)(hj:j=m+k):(prodsTo j c).set j (gmul (BitVec.ofNat 8 k) c^^^gmul (BitVec.ofNat 8 m) c)=prodsTo (j+1) c:=by
 have hp:2^s≤2^7:=Nat.pow_le_pow_right (by decide) (by omega)
 have e:gmul (BitVec.ofNat 8 k) c^^^gmul (BitVec.ofNat 8 m) c=gmul (BitVec.ofNat 8 j) c:=by
  rw[←gmul_xor,hj,hm,ofNat_xor s hs k (by omega)]
 rw[e]
 apply List.ext_getElem (by simp[prodsTo])
 intro i h1 h2
 simp only[prodsTo,List.getElem_set,List.getElem_map,List.getElem_range]
 by_cases hi:j=i
 ·subst hi; simp
 · rw[if_neg hi]
   by_cases h3 : i <j
   ·rw[if_pos h3,if_pos (by omega)]
   ·rw[if_neg h3,if_neg (by omega)]
def expL:List Nat:=[1,2,4,8,16,32,64,128,29,58,116,232,205,135,19,38,76,152,45,90,180,117,234,201,143,3,6,12,24,48,96,192,157,39,78,156,37,74,148,53,106,212,181,119,238,193,159,35,70,140,5,10,20,40,80,160,93,186,105,210,185,111,222,161,95,190,97,194,153,47,94,188,101,202,137,15,30,60,120,240,253,231,211,187,107,214,177,127,254,225,223,163,91,182,113,226,217,175,67,134,17,34,68,136,13,26,52,104,208,189,103,206,129,31,62,124,248,237,199,147,59,118,236,197,151,51,102,204,133,23,46,92,184,109,218,169,79,158,33,66,132,21,42,84,168,77,154,41,82,164,85,170,73,146,57,114,228,213,183,115,230,209,191,99,198,145,63,126,252,229,215,179,123,246,241,255,227,219,171,75,150,49,98,196,149,55,110,220,165,87,174,65,130,25,50,100,200,141,7,14,28,56,112,224,221,167,83,166,81,162,89,178,121,242,249,239,195,155,43,86,172,69,138,9,18,36,72,144,61,122,244,245,247,243,251,235,203,139,11,22,44,88,176,125,250,233,207,131,27,54,108,216,173,71,142]
def logL:List Nat:=[255,0,1,25,2,50,26,198,3,223,51,238,27,104,199,75,4,100,224,14,52,141,239,129,28,193,105,248,200,8,76,113,5,138,101,47,225,36,15,33,53,147,142,218,240,18,130,69,29,181,194,125,106,39,249,185,201,154,9,120,77,228,114,166,6,191,139,98,102,221,48,253,226,152,37,179,16,145,34,136,54,208,148,206,143,150,219,189,241,210,19,92,131,56,70,64,30,66,182,163,195,72,126,110,107,58,40,84,250,133,186,61,202,94,155,159,10,21,121,43,78,212,229,172,115,243,167,87,7,112,192,247,140,128,99,13,103,74,222,237,49,197,254,24,227,165,153,119,38,184,180,124,17,68,146,217,35,32,137,46,55,63,209,91,149,188,207,205,144,135,151,178,220,252,190,97,242,86,211,171,20,42,93,158,132,60,57,83,71,109,65,162,31,45,67,216,183,123,164,118,196,23,73,236,127,12,111,246,108,161,59,82,41,157,85,170,251,96,134,177,187,204,62,90,203,89,95,176,156,169,160,81,11,245,22,235,122,117,44,215,79,174,213,233,230,231,173,232,116,214,244,234,168,80,88,175]
def tbl(i:Nat):List (BitVec 8):=(List.range 511).map fun k=>if k<255 then(if k<i then BitVec.ofNat 8 (expL.getD k 0)else 0#8)else if logL.getD (k-255) 255<i then BitVec.ofNat 8 (logL.getD (k-255) 255)else 0#8
theorem tbl_len(i:Nat):(tbl i).length=511:=by simp[tbl]
theorem tbl_zero:List.replicate 511 0#8=tbl 0:=by
 apply List.ext_getElem (by rw[List.length_replicate,tbl_len])
 intro i h1 h2
 simp only[tbl,List.getElem_replicate,List.getElem_map,List.getElem_range]
 split<;>simp
theorem logexp:∀i<255,logL.getD (expL.getD i 0) 255=i:=by decide+kernel
theorem explt:∀i<255,expL.getD i 0<256:=by decide+kernel
theorem explog:∀a<256,logL.getD a 255<255→expL.getD (logL.getD a 255) 0=a:=by decide+kernel
theorem xt_exp:∀i<254,xt (BitVec.ofNat 8 (expL.getD i 0))=BitVec.ofNat 8 (expL.getD (i+1) 0):=by decide+kernel
def gexp(i:Nat):BitVec 8:=BitVec.ofNat 8 (expL.getD (i%255) 0)
theorem xt_gexp{i:Nat}(h:i<255):xt (gexp i)=gexp (i+1):=by
 unfold gexp
 rcases Nat.lt_or_ge i 254 with h1|h1
 ·rw[Nat.mod_eq_of_lt h,Nat.mod_eq_of_lt (a:=i+1) (by omega)]; exact xt_exp i h1
 · have:i=254:=by omega
   subst this;decide+kernel
theorem gexp_nat{i:Nat}(h:i<255):(gexp i).toNat=expL.getD i 0:=by
 unfold gexp
 rw[Nat.mod_eq_of_lt h,BitVec.toNat_ofNat,Nat.mod_eq_of_lt (explt i h)]
theorem tbl_set{i:Nat}(h:i<255):((tbl i).set i (gexp i)).set (255+(gexp i).toNat) (BitVec.ofNat 8 i)=tbl (i+1):=by
 have hx:=gexp_nat h
 apply List.ext_getElem (by simp[tbl])
 intro k h1 h2
 have hk:k<511:=by simpa[tbl]using h2
 have hle:=logexp i h
 have hlt:=explt i h
 simp only[tbl,List.getElem_set,List.getElem_map,List.getElem_range]
 by_cases h3:255+(gexp i).toNat= k
 · have e1 : k - 255=expL.getD i 0:=by omega
   rw[if_pos h3,if_neg (by omega),e1,hle, if_pos (by omega)]
 · rw[if_neg h3]
   by_cases h4 : i = k
   · subst h4
     rw[if_pos rfl, if_pos h, if_pos (by omega)]
     unfold gexp
     rw[Nat.mod_eq_of_lt h]
   · rw[if_neg h4]
     by_cases h5 : k < 255
     · rw[if_pos h5, if_pos h5]
       by_cases h6 : k < i
       · rw[if_pos h6, if_pos (by omega)]
       · rw[if_neg h6, if_neg (by omega)]
     · rw[if_neg h5,if_neg h5]
       have hne:logL.getD (k-255) 255≠i:=fun e=>by
        have:=explog (k-255) (by omega) (by omega)
        rw[e]at this
        omega
       by_cases h6:logL.getD (k-255) 255<i
       ·rw[if_pos h6,if_pos (by omega)]
       ·rw[if_neg h6,if_neg (by omega)]
def glog(b:BitVec 8):BitVec 8:=BitVec.ofNat 8 (logL.getD b.toNat 255)
def ginv(b:BitVec 8):BitVec 8:=gexp (255-(glog b).toNat)
theorem log_lt:∀a<256,a≠0→logL.getD a 255<255:=by decide+kernel
theorem glog_nat{b:BitVec 8}(hb:((b.toNat:Nat):Int)≠0):(glog b).toNat=logL.getD b.toNat 255∧(glog b).toNat<255:=by
 have:=log_lt b.toNat b.isLt (by omega)
 unfold glog
 rw[BitVec.toNat_ofNat]
 omega
theorem tbl_log{b:BitVec 8}(hb:((b.toNat:Nat):Int)≠0)(hk:255+b.toNat<(tbl 255).length):(tbl 255)[255+b.toNat]=glog b:=by
 have:=glog_nat hb
 simp only[tbl,List.getElem_map,List.getElem_range]
 rw[if_neg (by omega),Nat.add_sub_cancel_left,if_pos (by omega)]
 rfl
theorem tbl_exp{k:Nat}(h:k<255)(hk:k<(tbl 255).length):(tbl 255)[k]=gexp k:=by
 simp only[tbl,List.getElem_map,List.getElem_range]
 rw[if_pos h,if_pos h]
 unfold gexp
 rw[Nat.mod_eq_of_lt h]
theorem gexp_mod(n:Nat):gexp (n%255)=gexp n:=by
 unfold gexp
 rw[Nat.mod_mod]
theorem tbl_one(hk:256<(tbl 255).length):(tbl 255)[256]=0#8:=by
 have:=tbl_log (b:=1#8) (by decide) hk
 rw[show glog 1#8=0#8 by decide+kernel]at this
 exact this
theorem double_spec{S:Nat→Prop}{w:World}(x:BitVec 8):
 Calls Tryz.prog 218 #[.int .u8 ((x.toNat:Nat):Int)] w (Ret fun v w'=>Ext w w'∧v=.int .u8 (((xt x).toNat:Nat):Int)):=by
 refine qS (fn:=Tryz.f218) (n:=10) (σ:=[(0,.int .u8 ((x.toNat:Nat):Int))]) Tryz.func218 ?_
 have H:=Hp.startF (w:=w) (S:=S) (G:=[]) .nil
 refine qR 5 [.c [1,0,1],.c [2]] [(0,.int .u8 ((x.toNat:Nat):Int)),(4,.bool (decide ((((x.toNat:Nat):Int):Int)≥128)))] ?_
 refine qD ((((x.toNat:Nat):Int):Int)≥128) (fun h1=>?_) (fun h1=>?_)
 ·
  refine qR 1 [.c [1,0,1,0,0],.c [1,0,1,0,1],.c [2]] [(0,.int .u8 ((x.toNat:Nat):Int))] ?_
  refine qG (sq 0 4) ?_
  refine qP 1 (sq 1 4) [(5,.int .u8 ((x.toNat:Nat):Int))] ?_
  refine RW.pv (κ:=.seq) (d:=some 6) (r:=(sq 2 4)) (v:=.int .u8 (IntKind.u8.wrap (((x.toNat:Nat):Int)*2^1))) (v':=.int .u8 ((((x<<<1).toNat:Nat):Int))) (by as_aux_lemma=>kernel_rfl) (bv_shl8 1 (bvi _)) ?_
  refine RW.pv (κ:=.seq) (d:=some 7) (r:=(sq 3 4)) (v:=.int .u8 (IntKind.u8.wrap ((BitVec.ofInt 8 (((x<<<1).toNat:Nat):Int)^^^BitVec.ofInt 8 29).toNat:Nat))) (v':=.int .u8 (((((x<<<1)^^^(29#8)).toNat:Nat):Int))) (by as_aux_lemma=>kernel_rfl) (bv_xor8 (bvi _) (by decide)) ?_
  refine qF 1 [(2,.int .u8 ((((x<<<1)^^^(29#8)).toNat:Nat):Int))] ?_
  refine qT (.int .u8 ((((x<<<1)^^^(29#8)).toNat:Nat):Int)) Tryz.func218 ?_
  refine⟨_,rfl,H.done,?_⟩
  unfold xt
  rw[if_pos (by assumption)]
 ·
  refine qR 2 [.c [2,0],.c [3]] [(0,.int .u8 ((x.toNat:Nat):Int))] ?_
  refine qG (sq 0 3) ?_
  refine qP 1 (sq 1 3) [(8,.int .u8 ((x.toNat:Nat):Int))] ?_
  refine RW.pv (κ:=.seq) (d:=some 9) (r:=(sq 2 3)) (v:=.int .u8 (IntKind.u8.wrap (((x.toNat:Nat):Int)*2^1))) (v':=.int .u8 ((((x<<<1).toNat:Nat):Int))) (by as_aux_lemma=>kernel_rfl) (bv_shl8 1 (bvi _)) ?_
  refine qF 1 [(2,.int .u8 (((x<<<1).toNat:Nat):Int))] ?_
  refine qT (.int .u8 (((x<<<1).toNat:Nat):Int)) Tryz.func218 ?_
  refine⟨_,rfl,H.done,?_⟩
  unfold xt
  rw[if_neg (by assumption)]
theorem mul_spec{S:Nat→Prop}{w:World}(x y:BitVec 8):
 Calls Tryz.prog 219 #[.int .u8 ((x.toNat:Nat):Int),.int .u8 ((y.toNat:Nat):Int)] w (Ret fun v w'=>Ext w w'∧v=.int .u8 (((gmul x y).toNat:Nat):Int)):=by
 refine qS (fn:=Tryz.f219) (n:=19) (σ:=[(0,.int .u8 ((x.toNat:Nat):Int)),(1,.int .u8 ((y.toNat:Nat):Int))]) Tryz.func219 ?_
 have H:=Hp.startF (w:=w) (S:=S) (G:=[]) .nil
 refine qR 6 [.c [2,0,0],.b 0,.c [3]] [(0,.int .u8 ((x.toNat:Nat):Int)),(1,.int .u8 ((y.toNat:Nat):Int)),(5,.int .u8 0)] ?_
 refine WK.loop (α:=Nat×BitVec 8×BitVec 8×BitVec 8) (b:=cd Tryz.prog 219 [2,0,0,0]) (by as_aux_lemma=>kernel_rfl) (fun st_=>match st_ with|(n,p,q,r)=>[(0,.int .u8 ((p.toNat:Nat):Int)),(1,.int .u8 ((q.toNat:Nat):Int)),(5,.int .u8 ((r.toNat:Nat):Int))]) (fun st_ w'=>match st_ with|(n,p,q,r)=>Hp w S [] [] [] [] w'∧q.toNat<2^n∧r^^^gm n p q=gmul x y) (fun st_=>match st_ with|(n,p,q,r)=>n) (8,x,y,0#8) ⟨H,y.isLt,BitVec.zero_xor⟩ (rfl) ?_
 rintro⟨n,p,q,r⟩w2⟨H,hinv0⟩hback1
 refine qR 3 [.c [2,0,0,0,0,1],.c [2,0,0,0,1],.l [2,0,0,0],.b 0,.c [3]] [(0,.int .u8 ((p.toNat:Nat):Int)),(1,.int .u8 ((q.toNat:Nat):Int)),(5,.int .u8 ((r.toNat:Nat):Int)),(7,.bool (decide ((((q.toNat:Nat):Int):Int)>0)))] ?_
 refine qD ((((q.toNat:Nat):Int):Int)>0) (fun h3=>?_) (fun h3=>?_)
 ·
  refine qR 5 [.c [2,0,0,0,1,0,0,0,0],.c [2,0,0,0,1,0,0,0,1],.c [2,0,0,0,1,0,0,1],.b 1,.c [2,0,0,0,2],.l [2,0,0,0],.b 0,.c [3]] [(0,.int .u8 ((p.toNat:Nat):Int)),(1,.int .u8 ((q.toNat:Nat):Int)),(5,.int .u8 ((r.toNat:Nat):Int))] ?_
  refine qG (sq 0 3) ?_
  refine qP 1 (sq 1 3) [(0,.int .u8 ((p.toNat:Nat):Int)),(1,.int .u8 ((q.toNat:Nat):Int)),(5,.int .u8 ((r.toNat:Nat):Int)),(10,.int .u8 ((q.toNat:Nat):Int))] ?_
  refine RW.pv (κ:=.seq) (d:=some 11) (r:=(sq 2 3)) (v:=.int .u8 (IntKind.u8.wrap ((BitVec.ofInt 8 ((q.toNat:Nat):Int)&&&BitVec.ofInt 8 1).toNat:Nat))) (v':=.int .u8 ((((q&&&(1#8)).toNat:Nat):Int))) (by as_aux_lemma=>kernel_rfl) (bv_and8 (bvi _) (by decide)) ?_
  refine qF 1 [(0,.int .u8 ((p.toNat:Nat):Int)),(1,.int .u8 ((q.toNat:Nat):Int)),(5,.int .u8 ((r.toNat:Nat):Int)),(12,.bool (decide (((((q&&&(1#8)).toNat:Nat):Int):Int)>0)))] ?_
  refine qD (((((q&&&(1#8)).toNat:Nat):Int):Int)>0) (fun h4=>?_) (fun h4=>?_)
  ·
   refine qG (sq 0 4) ?_
   refine qP 2 (sq 2 4) [(0,.int .u8 ((p.toNat:Nat):Int)),(1,.int .u8 ((q.toNat:Nat):Int)),(5,.int .u8 ((r.toNat:Nat):Int)),(13,.int .u8 ((r.toNat:Nat):Int)),(14,.int .u8 ((p.toNat:Nat):Int))] ?_
   refine RW.pv (κ:=.seq) (d:=some 15) (r:=(sq 3 4)) (v:=.int .u8 (IntKind.u8.wrap ((BitVec.ofInt 8 ((r.toNat:Nat):Int)^^^BitVec.ofInt 8 ((p.toNat:Nat):Int)).toNat:Nat))) (v':=.int .u8 ((((r^^^p).toNat:Nat):Int))) (by as_aux_lemma=>kernel_rfl) (bv_xor8 (bvi _) (bvi _)) ?_
   refine qF 1 [(0,.int .u8 ((p.toNat:Nat):Int)),(1,.int .u8 ((q.toNat:Nat):Int)),(5,.int .u8 (((r^^^p).toNat:Nat):Int))] ?_
   refine qG (sq 0 3) ?_
   refine qP 1 (sq 1 3) [(0,.int .u8 ((p.toNat:Nat):Int)),(1,.int .u8 ((q.toNat:Nat):Int)),(5,.int .u8 (((r^^^p).toNat:Nat):Int)),(16,.int .u8 ((p.toNat:Nat):Int))] ?_
   refine qK .seq (some 17) (sq 2 3) 218 #[.int .u8 ((p.toNat:Nat):Int)] (double_spec (S:=fun _=>True) p) ?_
   rintro _ w5 hE6 rfl
   have H:=H.ext hE6
   refine qF 1 [(0,.int .u8 (((xt p).toNat:Nat):Int)),(1,.int .u8 ((q.toNat:Nat):Int)),(5,.int .u8 (((r^^^p).toNat:Nat):Int))] ?_
   refine qR 1 [.c [2,0,0,0,2],.l [2,0,0,0],.b 0,.c [3]] [(0,.int .u8 (((xt p).toNat:Nat):Int)),(1,.int .u8 ((q.toNat:Nat):Int)),(5,.int .u8 (((r^^^p).toNat:Nat):Int))] ?_
   refine qG (sq 0 3) ?_
   refine qP 1 (sq 1 3) [(0,.int .u8 (((xt p).toNat:Nat):Int)),(1,.int .u8 ((q.toNat:Nat):Int)),(5,.int .u8 (((r^^^p).toNat:Nat):Int)),(8,.int .u8 ((q.toNat:Nat):Int))] ?_
   refine RW.pv (κ:=.seq) (d:=some 9) (r:=(sq 2 3)) (v:=.int .u8 (((q.toNat:Nat):Int).fdiv (2^1))) (v':=.int .u8 ((((q>>>1).toNat:Nat):Int))) (by as_aux_lemma=>kernel_rfl) (bv_shr8 _ 1) ?_
   refine qF 1 [(0,.int .u8 (((xt p).toNat:Nat):Int)),(1,.int .u8 (((q>>>1).toNat:Nat):Int)),(5,.int .u8 (((r^^^p).toNat:Nat):Int))] ?_
   exact WK.back (hback1 (n-1,xt p,q>>>1,r^^^p) _ ⟨H,shr_lt hinv0.1 (pow_pos_of hinv0.1 (by assumption)),by rw[←hinv0.2,gm_step (n:=n) (pow_pos_of hinv0.1 (by assumption))];first|rw[if_pos (by assumption)]|(rw[if_neg (by assumption),BitVec.xor_zero])⟩ (by have:=pow_pos_of hinv0.1 (by assumption);simp only[];omega)) (by as_aux_lemma=>kernel_rfl)
  ·
   refine qR 1 [.c [2,0,0,0,1,0,0,1],.b 1,.c [2,0,0,0,2],.l [2,0,0,0],.b 0,.c [3]] [(0,.int .u8 ((p.toNat:Nat):Int)),(1,.int .u8 ((q.toNat:Nat):Int)),(5,.int .u8 ((r.toNat:Nat):Int))] ?_
   refine qG (sq 0 3) ?_
   refine qP 1 (sq 1 3) [(0,.int .u8 ((p.toNat:Nat):Int)),(1,.int .u8 ((q.toNat:Nat):Int)),(5,.int .u8 ((r.toNat:Nat):Int)),(16,.int .u8 ((p.toNat:Nat):Int))] ?_
   refine qK .seq (some 17) (sq 2 3) 218 #[.int .u8 ((p.toNat:Nat):Int)] (double_spec (S:=fun _=>True) p) ?_
   rintro _ w7 hE8 rfl
   have H:=H.ext hE8
   refine qF 1 [(0,.int .u8 (((xt p).toNat:Nat):Int)),(1,.int .u8 ((q.toNat:Nat):Int)),(5,.int .u8 ((r.toNat:Nat):Int))] ?_
   refine qR 1 [.c [2,0,0,0,2],.l [2,0,0,0],.b 0,.c [3]] [(0,.int .u8 (((xt p).toNat:Nat):Int)),(1,.int .u8 ((q.toNat:Nat):Int)),(5,.int .u8 ((r.toNat:Nat):Int))] ?_
   refine qG (sq 0 3) ?_
   refine qP 1 (sq 1 3) [(0,.int .u8 (((xt p).toNat:Nat):Int)),(1,.int .u8 ((q.toNat:Nat):Int)),(5,.int .u8 ((r.toNat:Nat):Int)),(8,.int .u8 ((q.toNat:Nat):Int))] ?_
   refine RW.pv (κ:=.seq) (d:=some 9) (r:=(sq 2 3)) (v:=.int .u8 (((q.toNat:Nat):Int).fdiv (2^1))) (v':=.int .u8 ((((q>>>1).toNat:Nat):Int))) (by as_aux_lemma=>kernel_rfl) (bv_shr8 _ 1) ?_
   refine qF 1 [(0,.int .u8 (((xt p).toNat:Nat):Int)),(1,.int .u8 (((q>>>1).toNat:Nat):Int)),(5,.int .u8 ((r.toNat:Nat):Int))] ?_
   exact WK.back (hback1 (n-1,xt p,q>>>1,r) _ ⟨H,shr_lt hinv0.1 (pow_pos_of hinv0.1 (by assumption)),by rw[←hinv0.2,gm_step (n:=n) (pow_pos_of hinv0.1 (by assumption))];first|rw[if_pos (by assumption)]|(rw[if_neg (by assumption),BitVec.xor_zero])⟩ (by have:=pow_pos_of hinv0.1 (by assumption);simp only[];omega)) (by as_aux_lemma=>kernel_rfl)
 ·
  refine qR 3 [.c [4]] [(4,.int .u8 ((r.toNat:Nat):Int))] ?_
  refine qT (.int .u8 ((r.toNat:Nat):Int)) Tryz.func219 ?_
  refine⟨_,rfl,H.done,?_⟩
  have hq9:q=0#8:=bv_zero_of (by assumption)
  rw[←hinv0.2,hq9,gm_zero,BitVec.xor_zero]
theorem s8{m s:Nat}(h:m<256)(he:m=2^s):s+1≤8:=by
 rcases Nat.lt_or_ge s 8 with h1|h1
 ·omega
 · have :2^8≤2^s:=Nat.pow_le_pow_right (by decide) h1
   omega
theorem s7{m s:Nat}(h:m<256)(he:m=2^s):m≤128:=by
 have:=s8 h he
 have h2:2^s≤2^7:=Nat.pow_le_pow_right (by decide) (by omega)
 omega
theorem s8b{m s:Nat}(h:m<256)(he:m=2^s):s<8:=by
 have:=s8 h he;omega
theorem products_spec{S:Nat→Prop}{w:World}(c:BitVec 8):
 Calls Tryz.prog 166 #[.int .u8 ((c.toNat:Nat):Int)] w (Ret fun v w'=>Ext w w'∧∃b:Nat,v=.P b 0∧Hp w S [] [] [⟨Sb,306,.slice (some ⟨b,0,none⟩) 256 256,prods c⟩] [] w'):=by
 refine qS (fn:=Tryz.f166) (n:=36) (σ:=[(0,.int .u8 ((c.toNat:Nat):Int))]) Tryz.func166 ?_
 have H:=Hp.startF (w:=w) (S:=S) (G:=[]) .nil
 refine qR 3 [.c [1,0],.c [2]] [(0,.int .u8 ((c.toNat:Nat):Int))] ?_
 refine qG (sq 0 3) ?_
 refine qP 1 (sq 1 3) [(0,.int .u8 ((c.toNat:Nat):Int)),(7,.agg (Array.replicate 256 (.int .u8 0)))] ?_
 refine qB .seq 8 (sq 2 3) (Array.replicate 256 (.int .u8 0)) 306 H ?_
 intro b1 w2 H
 have H:=H.toOwnN (sh:=Sb) (x0:=0#8) rfl (by simp[maxLen]) 256 (Nat.le_refl _) (fun _ _=>rfl)
 have H:Hp w S [] [] [⟨Sb,306,.slice (some ⟨b1,0,none⟩) 256 256,(List.replicate 256 0#8)⟩] [] _:=H
 refine qF 1 [(0,.int .u8 ((c.toNat:Nat):Int)),(3,.P b1 0)] ?_
 refine qR 4 [.c [2,0,1,0],.b 0,.c [3]] [(0,.int .u8 ((c.toNat:Nat):Int)),(3,.P b1 0),(4,.I 1)] ?_
 have H:=H.reW (prodsTo_one c)
 refine WK.loop (α:=Nat×Nat) (b:=cd Tryz.prog 166 [2,0,1,0,0]) (by as_aux_lemma=>kernel_rfl) (fun st_=>match st_ with|(m,s)=>[(0,.int .u8 ((c.toNat:Nat):Int)),(3,.P b1 0),(4,.I m)]) (fun st_ w'=>match st_ with|(m,s)=>Hp w S [] [] [⟨Sb,306,.slice (some ⟨b1,0,none⟩) 256 256,prodsTo m c⟩] [] w'∧s≤8∧m=2^s) (fun st_=>match st_ with|(m,s)=>256-m) (1,0) ⟨H,by decide,rfl⟩ (rfl) ?_
 rintro⟨m,s⟩w4⟨H,hinv0⟩hback3
 have hpw:m≤256:=hinv0.2▸Nat.pow_le_pow_right (n:=2) (by decide) hinv0.1
 have hp1:0<m:=hinv0.2▸Nat.pow_pos (by decide)
 refine qR 3 [.c [2,0,1,0,0,0,1],.c [2,0,1,0,0,1],.l [2,0,1,0,0],.b 0,.c [3]] [(0,.int .u8 ((c.toNat:Nat):Int)),(3,.P b1 0),(4,.I m),(10,.bool (decide (((m:Int):Int)<256)))] ?_
 refine qD (((m:Int):Int)<256) (fun h5=>?_) (fun h5=>?_)
 ·
  have hm128:m≤128:=s7 (by omega) hinv0.2
  refine qR 4 [.c [2,0,1,0,0,1,0,0,0],.c [2,0,1,0,0,1,0,0,1],.b 1,.c [2,0,1,0,0,2],.l [2,0,1,0,0],.b 0,.c [3]] [(0,.int .u8 ((c.toNat:Nat):Int)),(3,.P b1 0),(4,.I m)] ?_
  refine qG (sq 0 5) ?_
  refine qP 1 (sq 1 5) [(0,.int .u8 ((c.toNat:Nat):Int)),(3,.P b1 0),(4,.I m),(13,.I m)] ?_
  refine RW.pv (κ:=.seq) (d:=some 14) (r:=(sq 2 5)) (v:=.int .u8 (IntKind.u8.wrap ((m:Int)))) (v':=.int .u8 (((BitVec.ofNat 8 m).toNat:Nat):Int)) (by as_aux_lemma=>kernel_rfl) ((wrap_bv8 _).trans (by rw[bv_nat])) ?_
  refine qP 1 (sq 3 5) [(0,.int .u8 ((c.toNat:Nat):Int)),(3,.P b1 0),(4,.I m),(14,.int .u8 (((BitVec.ofNat 8 m).toNat:Nat):Int)),(15,.int .u8 ((c.toNat:Nat):Int))] ?_
  refine qK .seq (some 16) (sq 4 5) 219 #[.int .u8 (((BitVec.ofNat 8 m).toNat:Nat):Int),.int .u8 ((c.toNat:Nat):Int)] (mul_spec (S:=fun _=>True) (BitVec.ofNat 8 m) c) ?_
  rintro _ w6 hE7 rfl
  have H:=H.ext hE7
  refine qF 1 [(0,.int .u8 ((c.toNat:Nat):Int)),(3,.P b1 0),(4,.I m),(5,.int .u8 (((gmul (BitVec.ofNat 8 m) c).toNat:Nat):Int))] ?_
  refine qR 3 [.c [2,0,1,0,0,1,0,0,2,0],.b 2,.b 1,.c [2,0,1,0,0,2],.l [2,0,1,0,0],.b 0,.c [3]] [(0,.int .u8 ((c.toNat:Nat):Int)),(3,.P b1 0),(4,.I m),(5,.int .u8 (((gmul (BitVec.ofNat 8 m) c).toNat:Nat):Int)),(17,.I m),(18,.I 0)] ?_
  refine WK.loop (α:=Nat) (b:=cd Tryz.prog 166 [2,0,1,0,0,1,0,0,2,0,0]) (by as_aux_lemma=>kernel_rfl) (fun j=>[(0,.int .u8 ((c.toNat:Nat):Int)),(3,.P b1 0),(4,.I m),(5,.int .u8 (((gmul (BitVec.ofNat 8 m) c).toNat:Nat):Int)),(17,.I m),(18,.I j)]) (fun j w'=>Hp w S [] [] [⟨Sb,306,.slice (some ⟨b1,0,none⟩) 256 256,prodsTo (m+j) c⟩] [] w'∧j≤m) (fun j=>m-j) 0 ⟨H,Nat.zero_le _⟩ (rfl) ?_
  rintro j w9⟨H,hinv1⟩hback8
  refine qR 3 [.c [2,0,1,0,0,1,0,0,2,0,0,1,0],.c [2,0,1,0,0,1,0,0,2,0,0,2],.l [2,0,1,0,0,1,0,0,2,0,0],.b 2,.b 1,.c [2,0,1,0,0,2],.l [2,0,1,0,0],.b 0,.c [3]] [(0,.int .u8 ((c.toNat:Nat):Int)),(3,.P b1 0),(4,.I m),(5,.int .u8 (((gmul (BitVec.ofNat 8 m) c).toNat:Nat):Int)),(17,.I m),(18,.I j),(19,.bool (decide (((j:Int):Int)<(m:Int))))] ?_
  refine qD (((j:Int):Int)<(m:Int)) (fun h10=>?_) (fun h10=>?_)
  ·
   refine qR 5 [.c [2,0,1,0,0,1,0,0,2,0,0,2,0,0,1],.b 3,.c [2,0,1,0,0,1,0,0,2,0,0,3],.l [2,0,1,0,0,1,0,0,2,0,0],.b 2,.b 1,.c [2,0,1,0,0,2],.l [2,0,1,0,0],.b 0,.c [3]] [(0,.int .u8 ((c.toNat:Nat):Int)),(3,.P b1 0),(4,.I m),(5,.int .u8 (((gmul (BitVec.ofNat 8 m) c).toNat:Nat):Int)),(6,.I j),(17,.I m),(18,.I j)] ?_
   refine WK.draw1 13 (qs [0,1,2,3,4,5,6,7,8,9,10,11,12]) [(0,.qui),(1,.qui),(2,.qui),(3,.qui),(4,.qui),(5,.qui),(6,.qui),(7,.qui),(8,.qui),(9,.qui),(10,.qui),(11,.qui),(12,.qui),(13,.seq)] Tryz_mixed (by as_aux_lemma=>kernel_rfl) (by as_aux_lemma=>kernel_rfl) (by as_aux_lemma=>kernel_rfl) ?_
   have H:=H.draw
   generalize({w9 with drawn:=w9.drawn+1}:World)=w11 at H⊢
   refine qP 3 [(3,.qui),(4,.qui),(5,.qui),(6,.qui),(7,.qui),(8,.qui),(9,.qui),(10,.qui),(11,.qui),(12,.qui),(13,.seq)] [(0,.int .u8 ((c.toNat:Nat):Int)),(3,.P b1 0),(4,.I m),(5,.int .u8 (((gmul (BitVec.ofNat 8 m) c).toNat:Nat):Int)),(6,.I j),(17,.I m),(18,.I j),(21,.P b1 0),(22,.I m),(23,.I j)] ?_
   refine qI .qui 24 [(4,.qui),(5,.qui),(6,.qui),(7,.qui),(8,.qui),(9,.qui),(10,.qui),(11,.qui),(12,.qui),(13,.seq)] ((m:Int)+(j:Int)) ?_
   refine qP 3 [(7,.qui),(8,.qui),(9,.qui),(10,.qui),(11,.qui),(12,.qui),(13,.seq)] [(0,.int .u8 ((c.toNat:Nat):Int)),(3,.P b1 0),(4,.I m),(5,.int .u8 (((gmul (BitVec.ofNat 8 m) c).toNat:Nat):Int)),(17,.I m),(18,.I j),(21,.P b1 0),(24,.I ((m:Int)+(j:Int))),(26,.I j),(27,.P b1 0)] ?_
   refine RW.indexP (κ:=.qui) (d:=some 28) (r:=[(8,.qui),(9,.qui),(10,.qui),(11,.qui),(12,.qui),(13,.seq)]) (T:=306) (e:=5) (N:=256) (m:=1) (b:=b1) (o:=0) (o2:=j) (ik:=.i64) (ix:=(j:Int)) (by as_aux_lemma=>kernel_rfl) (by as_aux_lemma=>kernel_rfl) j (by omega) (by omega) (by omega) ?_
   have hx12:j<(prodsTo (m+j) c).length:=by rw[prodsTo_len];omega
   refine qL .qui 29 [(9,.qui),(10,.qui),(11,.qui),(12,.qui),(13,.seq)] 5 b1 j 0 (.int .u8 (((gmul (BitVec.ofNat 8 j) c).toNat:Nat):Int)) (show Cells _ _ _ [.int .u8 (((gmul (BitVec.ofNat 8 j) c).toNat:Nat):Int)]from by have hq:=H.ownBv j hx12 ((prodsTo_len _ _).symm);rw[prodsTo_get (by omega) _]at hq;exact hq) ?_
   refine qP 1 [(10,.qui),(11,.qui),(12,.qui),(13,.seq)] [(0,.int .u8 ((c.toNat:Nat):Int)),(3,.P b1 0),(4,.I m),(5,.int .u8 (((gmul (BitVec.ofNat 8 m) c).toNat:Nat):Int)),(17,.I m),(18,.I j),(21,.P b1 0),(24,.I ((m:Int)+(j:Int))),(29,.int .u8 (((gmul (BitVec.ofNat 8 j) c).toNat:Nat):Int)),(30,.int .u8 (((gmul (BitVec.ofNat 8 m) c).toNat:Nat):Int))] ?_
   refine RW.pv (κ:=.qui) (d:=some 31) (r:=[(11,.qui),(12,.qui),(13,.seq)]) (v:=.int .u8 (IntKind.u8.wrap ((BitVec.ofInt 8 (((gmul (BitVec.ofNat 8 j) c).toNat:Nat):Int)^^^BitVec.ofInt 8 (((gmul (BitVec.ofNat 8 m) c).toNat:Nat):Int)).toNat:Nat))) (v':=.int .u8 (((((gmul (BitVec.ofNat 8 j) c)^^^(gmul (BitVec.ofNat 8 m) c)).toNat:Nat):Int))) (by as_aux_lemma=>kernel_rfl) (bv_xor8 (bvi _) (bvi _)) ?_
   refine qP 1 [(12,.qui),(13,.seq)] [(0,.int .u8 ((c.toNat:Nat):Int)),(3,.P b1 0),(4,.I m),(5,.int .u8 (((gmul (BitVec.ofNat 8 m) c).toNat:Nat):Int)),(17,.I m),(18,.I j),(24,.I ((m:Int)+(j:Int))),(31,.int .u8 ((((gmul (BitVec.ofNat 8 j) c)^^^(gmul (BitVec.ofNat 8 m) c)).toNat:Nat):Int)),(32,.P b1 0)] ?_
   refine RW.indexP (κ:=.qui) (d:=some 33) (r:=[(13,.seq)]) (T:=306) (e:=5) (N:=256) (m:=1) (b:=b1) (o:=0) (o2:=m+j) (ik:=.i64) (ix:=(m:Int)+(j:Int)) (by as_aux_lemma=>kernel_rfl) (by as_aux_lemma=>kernel_rfl) (m+j) (by omega) (by omega) (by omega) ?_
   have hx13:m+j<(prodsTo (m+j) c).length:=by rw[prodsTo_len];omega
   have hn14:256=(prodsTo (m+j) c).length:=(prodsTo_len _ _).symm
   refine RW.storeP (d:=none) (r:=[]) (e:=5) (m:=1) (b:=b1) (k:=m+j) (v:=.int .u8 ((((gmul (BitVec.ofNat 8 j) c)^^^(gmul (BitVec.ofNat 8 m) c)).toNat:Nat):Int)) (by as_aux_lemma=>kernel_rfl) (Nat.mul_one _).symm rfl (by as_aux_lemma=>kernel_rfl) H hx13 hn14 ((gmul (BitVec.ofNat 8 j) c)^^^(gmul (BitVec.ofNat 8 m) c)) Shape.bv_mk ?_
   intro w15 H
   have H:=H.reW (ys:=prodsTo (m+j+1) c) (prodsTo_set (s8b (by omega) hinv0.2) hinv0.2 (by omega) rfl)
   have H:Hp w S [] [] [⟨Sb,306,.slice (some ⟨b1,0,none⟩) 256 256,prodsTo (m+j+1) c⟩] [] _:=H
   refine qF 0 [(0,.int .u8 ((c.toNat:Nat):Int)),(3,.P b1 0),(4,.I m),(5,.int .u8 (((gmul (BitVec.ofNat 8 m) c).toNat:Nat):Int)),(17,.I m),(18,.I j)] ?_
   refine qR 1 [.c [2,0,1,0,0,1,0,0,2,0,0,3],.l [2,0,1,0,0,1,0,0,2,0,0],.b 2,.b 1,.c [2,0,1,0,0,2],.l [2,0,1,0,0],.b 0,.c [3]] [(0,.int .u8 ((c.toNat:Nat):Int)),(3,.P b1 0),(4,.I m),(5,.int .u8 (((gmul (BitVec.ofNat 8 m) c).toNat:Nat):Int)),(17,.I m),(18,.I j)] ?_
   refine qG (sq 0 2) ?_
   refine qI .seq 34 (sq 1 2) ((j:Int)+1) ?_
   refine qF 1 [(0,.int .u8 ((c.toNat:Nat):Int)),(3,.P b1 0),(4,.I m),(5,.int .u8 (((gmul (BitVec.ofNat 8 m) c).toNat:Nat):Int)),(17,.I m),(18,.I ((j:Int)+1))] ?_
   exact WK.back (hback8 (j+1) _ ⟨H,by omega⟩ (by first|omega|(simp only[];omega))) (by as_aux_lemma=>kernel_rfl)
  ·
   refine qR 2 [.c [2,0,1,0,0,2],.l [2,0,1,0,0],.b 0,.c [3]] [(0,.int .u8 ((c.toNat:Nat):Int)),(3,.P b1 0),(4,.I m)] ?_
   refine qG (sq 0 3) ?_
   refine qP 1 (sq 1 3) [(0,.int .u8 ((c.toNat:Nat):Int)),(3,.P b1 0),(4,.I m),(11,.I m)] ?_
   refine RW.pv (κ:=.seq) (d:=some 12) (r:=(sq 2 3)) (v:=.I (IntKind.i64.wrap ((m:Int)*2^1))) (v':=.I ((m:Int)*2)) (by as_aux_lemma=>kernel_rfl) (shl_i64 (by decide) (by omega)) ?_
   refine qF 1 [(0,.int .u8 ((c.toNat:Nat):Int)),(3,.P b1 0),(4,.I ((m:Int)*2))] ?_
   have hjm:m=j:=by omega
   subst hjm
   have e9:m+m=m*2:=by omega
   rw[e9]at H
   have H:=H.drop (M':=[]) (W':=[⟨Sb,306,.slice (some ⟨b1,0,none⟩) 256 256,prodsTo (m*2) c⟩]) (by repeat(first|exact List.Sublist.refl _|apply List.Sublist.cons_cons|apply List.Sublist.cons)) (by repeat(first|exact List.Sublist.refl _|apply List.Sublist.cons_cons|apply List.Sublist.cons))
   exact WK.back (hback3 (m*2,s+1) _ ⟨H,s8 (by omega) hinv0.2,by rw[hinv0.2,Nat.pow_succ]⟩ (by simp only[];omega)) (by simp)
 ·
  refine qR 3 [.c [4]] [(2,.P b1 0)] ?_
  refine qT (.P b1 0) Tryz.func166 ?_
  have hm9:m=256:=by omega
  subst hm9
  rw[prodsTo_all]at H
  exact⟨_,rfl,H.done,_,rfl,H.pick [] rfl⟩
theorem tables_spec{S:Nat→Prop}{w:World}  :
 Calls Tryz.prog 165 #[] w (Ret fun v w'=>Ext w w'∧∃b:Nat,v=.P b 0∧Hp w S [] [] [⟨Sb,247,.slice (some ⟨b,0,none⟩) 511 511,tbl 255⟩] [] w'):=by
 refine qS (fn:=Tryz.f165) (n:=26) (σ:=[]) Tryz.func165 ?_
 have H:=Hp.startF (w:=w) (S:=S) (G:=[]) .nil
 refine qR 3 [.c [1,0],.c [2]] [] ?_
 refine qG (sq 0 3) ?_
 refine qP 1 (sq 1 3) [(4,.agg (Array.replicate 511 (.int .u8 0)))] ?_
 refine qB .seq 5 (sq 2 3) (Array.replicate 511 (.int .u8 0)) 247 H ?_
 intro b1 w2 H
 have H:=H.toOwnN (sh:=Sb) (x0:=0#8) rfl (by simp[maxLen]) 511 (Nat.le_refl _) (fun _ _=>rfl)
 have H:Hp w S [] [] [⟨Sb,247,.slice (some ⟨b1,0,none⟩) 511 511,(List.replicate 511 0#8)⟩] [] _:=H
 refine qF 1 [(1,.P b1 0)] ?_
 refine qR 6 [.c [3,0,1,0],.b 0,.c [4]] [(1,.P b1 0),(2,.int .u8 1),(6,.I 0)] ?_
 have H:=H.reW tbl_zero
 have hg0:(1#8:BitVec 8)=gexp 0:=by decide+kernel
 refine WK.loop (α:=Nat) (b:=cd Tryz.prog 165 [3,0,1,0,0]) (by as_aux_lemma=>kernel_rfl) (fun i=>[(1,.P b1 0),(2,.int .u8 (((gexp i).toNat:Nat):Int)),(6,.I i)]) (fun i w'=>Hp w S [] [] [⟨Sb,247,.slice (some ⟨b1,0,none⟩) 511 511,tbl i⟩] [] w'∧i≤255) (fun i=>255-i) 0 ⟨H,by omega⟩ (rfl) ?_
 rintro i w4⟨H,hinv0⟩hback3
 have hgl:=(gexp i).isLt
 refine qR 3 [.c [3,0,1,0,0,1,0],.c [3,0,1,0,0,2],.l [3,0,1,0,0],.b 0,.c [4]] [(1,.P b1 0),(2,.int .u8 (((gexp i).toNat:Nat):Int)),(6,.I i),(7,.bool (decide (((i:Int):Int)<255)))] ?_
 refine qD (((i:Int):Int)<255) (fun h5=>?_) (fun h5=>?_)
 ·
  refine qR 6 [.c [3,0,1,0,0,2,0,0,1,0],.c [3,0,1,0,0,2,0,0,2],.b 1,.c [3,0,1,0,0,3],.l [3,0,1,0,0],.b 0,.c [4]] [(1,.P b1 0),(2,.int .u8 (((gexp i).toNat:Nat):Int)),(3,.I i),(6,.I i)] ?_
  refine qG (sq 0 7) ?_
  refine qP 5 (sq 5 7) [(1,.P b1 0),(2,.int .u8 (((gexp i).toNat:Nat):Int)),(3,.I i),(6,.I i),(10,.I i),(11,.int .u8 (((gexp i).toNat:Nat):Int)),(13,.P b1 0)] ?_
  refine RW.indexP (κ:=.seq) (d:=some 14) (r:=(sq 6 7)) (T:=244) (e:=5) (N:=255) (m:=1) (b:=b1) (o:=0) (o2:=i) (ik:=.i64) (ix:=(i:Int)) (by as_aux_lemma=>kernel_rfl) (by as_aux_lemma=>kernel_rfl) i (by omega) (by omega) (by omega) ?_
  have hx6:i<(tbl i).length:=by first|(rw[List.length_set,tbl_len];omega)|(rw[tbl_len];omega)
  have hn7:511=(tbl i).length:=by first|rw[List.length_set,tbl_len]|rw[tbl_len]
  refine RW.storeP (d:=none) (r:=(sq 7 7)) (e:=5) (m:=1) (b:=b1) (k:=i) (v:=.int .u8 (((gexp i).toNat:Nat):Int)) (by as_aux_lemma=>kernel_rfl) (Nat.mul_one _).symm rfl (by as_aux_lemma=>kernel_rfl) H hx6 hn7 (gexp i) Shape.bv_mk ?_
  intro w8 H
  have H:Hp w S [] [] [⟨Sb,247,.slice (some ⟨b1,0,none⟩) 511 511,(tbl i).set i (gexp i)⟩] [] _:=H
  refine qF 0 [(1,.P b1 0),(2,.int .u8 (((gexp i).toNat:Nat):Int)),(3,.I i),(6,.I i)] ?_
  refine qR 1 [.c [3,0,1,0,0,2,0,0,2,0],.c [3,0,1,0,0,2,0,0,3],.b 1,.c [3,0,1,0,0,3],.l [3,0,1,0,0],.b 0,.c [4]] [(1,.P b1 0),(2,.int .u8 (((gexp i).toNat:Nat):Int)),(3,.I i),(6,.I i)] ?_
  refine qG (sq 0 8) ?_
  refine qP 3 (sq 3 8) [(1,.P b1 0),(2,.int .u8 (((gexp i).toNat:Nat):Int)),(6,.I i),(15,.P b1 0),(16,.int .u8 (((gexp i).toNat:Nat):Int)),(17,.I i)] ?_
  refine RW.pv (κ:=.seq) (d:=some 18) (r:=(sq 4 8)) (v:=.int .u8 (IntKind.u8.wrap ((i:Int)))) (v':=.int .u8 (((BitVec.ofNat 8 i).toNat:Nat):Int)) (by as_aux_lemma=>kernel_rfl) ((wrap_bv8 _).trans (by rw[bv_nat])) ?_
  refine qP 2 (sq 6 8) [(1,.P b1 0),(2,.int .u8 (((gexp i).toNat:Nat):Int)),(6,.I i),(16,.int .u8 (((gexp i).toNat:Nat):Int)),(18,.int .u8 (((BitVec.ofNat 8 i).toNat:Nat):Int)),(20,.P b1 255)] ?_
  refine RW.indexP (κ:=.seq) (d:=some 21) (r:=(sq 7 8)) (T:=245) (e:=5) (N:=256) (m:=1) (b:=b1) (o:=255) (o2:=255+(gexp i).toNat) (ik:=.u8) (ix:=(((gexp i).toNat:Nat):Int)) (by as_aux_lemma=>kernel_rfl) (by as_aux_lemma=>kernel_rfl) ((gexp i).toNat) (by omega) (by omega) (by omega) ?_
  have hx9:255+(gexp i).toNat<((tbl i).set i (gexp i)).length:=by first|(rw[List.length_set,tbl_len];omega)|(rw[tbl_len];omega)
  have hn10:511=((tbl i).set i (gexp i)).length:=by first|rw[List.length_set,tbl_len]|rw[tbl_len]
  refine RW.storeP (d:=none) (r:=(sq 8 8)) (e:=5) (m:=1) (b:=b1) (k:=255+(gexp i).toNat) (v:=.int .u8 (((BitVec.ofNat 8 i).toNat:Nat):Int)) (by as_aux_lemma=>kernel_rfl) (Nat.mul_one _).symm rfl (by as_aux_lemma=>kernel_rfl) H hx9 hn10 (BitVec.ofNat 8 i) Shape.bv_mk ?_
  intro w11 H
  have H:=H.reW (ys:=tbl (i+1)) (tbl_set (by omega))
  have H:Hp w S [] [] [⟨Sb,247,.slice (some ⟨b1,0,none⟩) 511 511,tbl (i+1)⟩] [] _:=H
  refine qF 0 [(1,.P b1 0),(2,.int .u8 (((gexp i).toNat:Nat):Int)),(6,.I i)] ?_
  refine qG (sq 0 3) ?_
  refine qP 1 (sq 1 3) [(1,.P b1 0),(2,.int .u8 (((gexp i).toNat:Nat):Int)),(6,.I i),(22,.int .u8 (((gexp i).toNat:Nat):Int))] ?_
  refine qK .seq (some 23) (sq 2 3) 218 #[.int .u8 (((gexp i).toNat:Nat):Int)] (double_spec (S:=fun _=>True) (gexp i)) ?_
  rintro _ w12 hE13 rfl
  have H:=H.ext hE13
  refine qF 1 [(1,.P b1 0),(2,.int .u8 (((xt (gexp i)).toNat:Nat):Int)),(6,.I i)] ?_
  refine qR 1 [.c [3,0,1,0,0,3],.l [3,0,1,0,0],.b 0,.c [4]] [(1,.P b1 0),(2,.int .u8 (((xt (gexp i)).toNat:Nat):Int)),(6,.I i)] ?_
  refine qG (sq 0 2) ?_
  refine qI .seq 24 (sq 1 2) ((i:Int)+1) ?_
  refine qF 1 [(1,.P b1 0),(2,.int .u8 (((xt (gexp i)).toNat:Nat):Int)),(6,.I ((i:Int)+1))] ?_
  exact WK.back (hback3 (i+1) _ ⟨H,by omega⟩ (by first|omega|(simp only[];omega))) (by rw[xt_gexp (by omega)];simp)
 ·
  refine qR 3 [.c [5]] [(0,.P b1 0)] ?_
  refine qT (.P b1 0) Tryz.func165 ?_
  have hi9:i=255:=by omega
  subst hi9
  exact⟨_,rfl,H.done,_,rfl,H.pick [] rfl⟩
theorem div1_spec{S:Nat→Prop}{w:World}(y:BitVec 8)(hy:((y.toNat:Nat):Int)≠0):
 Calls Tryz.prog 107 #[.int .u8 1,.int .u8 ((y.toNat:Nat):Int)] w (Ret fun v w'=>Ext w w'∧v=.tuple #[.int .u8 (((ginv y).toNat:Nat):Int),.I 0]):=by
 have hyl:=y.isLt
 have hgy:=glog_nat hy
 refine qS (fn:=Tryz.f107) (n:=36) (σ:=[(0,.int .u8 1),(1,.int .u8 ((y.toNat:Nat):Int))]) Tryz.func107 ?_
 have H:=Hp.startF (w:=w) (S:=S) (G:=[]) .nil
 refine qR 6 [.c [1,0,0,1],.b 0,.c [2]] [(0,.int .u8 1),(1,.int .u8 ((y.toNat:Nat):Int)),(7,.bool (((y.toNat:Nat):Int)==0))] ?_
 refine qE ((y.toNat:Nat):Int) 0 (fun h1=>?_) (fun h1=>?_)
 ·
  exact absurd h1 hy
 ·
  refine qR 6 [.c [2,0],.c [3]] [(0,.int .u8 1),(1,.int .u8 ((y.toNat:Nat):Int))] ?_
  refine qG (sq 0 2) ?_
  refine qK .seq (some 13) (sq 1 2) 165 #[] (tables_spec (S:=Av S w [] (idsOf [] []))) ?_
  rintro _ w2-⟨b3,rfl,H'⟩
  have H:=H.back (M1:=[]) (W1:=[]) H'
  have H:Hp w S [] [] [⟨Sb,247,.slice (some ⟨b3,0,none⟩) 511 511,tbl 255⟩] [] _:=H
  refine qF 1 [(0,.int .u8 1),(1,.int .u8 ((y.toNat:Nat):Int)),(6,.P b3 0)] ?_
  refine qR 1 [.c [3,0],.c [4]] [(0,.int .u8 1),(1,.int .u8 ((y.toNat:Nat):Int)),(6,.P b3 0)] ?_
  refine WK.draw1 24 (qs [0,1,2,3,4,5,6,7,8,9,10,11,12,13,14,15,16,17,18,19,20,21,22,23]) (qs [0,1,2,3,4,5,6,7,8,9,10,11,12,13,14,15,16,17,18,19,20,21,22,23]) Tryz_mixed (by as_aux_lemma=>kernel_rfl) (by as_aux_lemma=>kernel_rfl) (by as_aux_lemma=>kernel_rfl) ?_
  have H:=H.draw
  generalize({w2 with drawn:=w2.drawn+1}:World)=w4 at H⊢
  refine qP 5 (qs [5,6,7,8,9,10,11,12,13,14,15,16,17,18,19,20,21,22,23]) [(1,.int .u8 ((y.toNat:Nat):Int)),(6,.P b3 0),(14,.P b3 0),(16,.int .u8 1),(18,.P b3 255)] ?_
  refine RW.indexP (κ:=.qui) (d:=some 19) (r:=(qs [6,7,8,9,10,11,12,13,14,15,16,17,18,19,20,21,22,23])) (T:=245) (e:=5) (N:=256) (m:=1) (b:=b3) (o:=255) (o2:=256) (ik:=.u8) (ix:=1) (by as_aux_lemma=>kernel_rfl) (by as_aux_lemma=>kernel_rfl) 1 (by omega) (by omega) (by omega) ?_
  have hx5:256<(tbl 255).length:=by rw[tbl_len];omega
  refine qL .qui 20 (qs [7,8,9,10,11,12,13,14,15,16,17,18,19,20,21,22,23]) 5 b3 256 0 (.int .u8 0) (show Cells _ _ _ [.int .u8 0]from by have hq:=H.ownBv 256 hx5 ((tbl_len _).symm);rw[tbl_one _]at hq;exact hq) ?_
  refine qP 6 (qs [13,14,15,16,17,18,19,20,21,22,23]) [(14,.P b3 0),(22,.I 255),(24,.int .u8 ((y.toNat:Nat):Int)),(26,.P b3 255)] ?_
  refine RW.indexP (κ:=.qui) (d:=some 27) (r:=(qs [14,15,16,17,18,19,20,21,22,23])) (T:=245) (e:=5) (N:=256) (m:=1) (b:=b3) (o:=255) (o2:=255+y.toNat) (ik:=.u8) (ix:=((y.toNat:Nat):Int)) (by as_aux_lemma=>kernel_rfl) (by as_aux_lemma=>kernel_rfl) y.toNat (by omega) (by omega) (by omega) ?_
  have hx6:255+y.toNat<(tbl 255).length:=by rw[tbl_len];omega
  refine qL .qui 28 (qs [15,16,17,18,19,20,21,22,23]) 5 b3 (255+y.toNat) 0 (.int .u8 (((glog y).toNat:Nat):Int)) (show Cells _ _ _ [.int .u8 (((glog y).toNat:Nat):Int)]from by have hq:=H.ownBv (255+y.toNat) hx6 ((tbl_len _).symm);rw[tbl_log hy _]at hq;exact hq) ?_
  refine RW.pv (κ:=.qui) (d:=some 29) (r:=(qs [16,17,18,19,20,21,22,23])) (v:=.I (IntKind.i64.wrap ((((glog y).toNat:Nat):Int)))) (v':=.I (((glog y).toNat:Nat):Int)) (by as_aux_lemma=>kernel_rfl) (bv_i648 _ (by have:=(glog y).isLt;omega)) ?_
  refine qI .qui 30 (qs [17,18,19,20,21,22,23]) (255-(((glog y).toNat:Nat):Int)) ?_
  refine RW.pv (κ:=.qui) (d:=some 31) (r:=(qs [18,19,20,21,22,23])) (v:=.I ((255-(((glog y).toNat:Nat):Int)).tmod 255)) (v':=.I ((255-(((glog y).toNat:Nat):Int))%255)) (by as_aux_lemma=>kernel_rfl) (rem_id (by omega)) ?_
  refine qP 2 (qs [20,21,22,23]) [(31,.I ((255-(((glog y).toNat:Nat):Int))%255)),(33,.P b3 0)] ?_
  refine RW.indexP (κ:=.qui) (d:=some 34) (r:=(qs [21,22,23])) (T:=244) (e:=5) (N:=255) (m:=1) (b:=b3) (o:=0) (o2:=((255-(glog y).toNat)%255)) (ik:=.i64) (ix:=(255-(((glog y).toNat:Nat):Int))%255) (by as_aux_lemma=>kernel_rfl) (by as_aux_lemma=>kernel_rfl) ((255-(glog y).toNat)%255) (by omega) (by omega) (by omega) ?_
  have hx7:((255-(glog y).toNat)%255)<(tbl 255).length:=by rw[tbl_len];omega
  refine qL .qui 35 (qs [22,23]) 5 b3 ((255-(glog y).toNat)%255) 0 (.int .u8 (((ginv y).toNat:Nat):Int)) (show Cells _ _ _ [.int .u8 (((ginv y).toNat:Nat):Int)]from by have hq:=H.ownBv ((255-(glog y).toNat)%255) hx7 ((tbl_len _).symm);rw[(tbl_exp (by omega) _).trans (gexp_mod _)]at hq;exact hq) ?_
  refine qF 2 [(4,.int .u8 (((ginv y).toNat:Nat):Int)),(5,.I 0)] ?_
  refine qT (.tuple #[.int .u8 (((ginv y).toNat:Nat):Int),.I 0]) Tryz.func107 ?_
  exact⟨_,rfl,H.done,rfl⟩
def mixL(xs ys:List (BitVec 8))(c:BitVec 8):List (BitVec 8):=List.zipWith (fun x y=>x^^^gmul y c) xs ys
theorem mixL_len{xs ys:List (BitVec 8)}{c:BitVec 8}(h:xs.length=ys.length):(mixL xs ys c).length=xs.length:=by
 simp[mixL,h]
theorem mixL_zero:∀{xs ys:List (BitVec 8)},xs.length=ys.length→mixL xs ys 0#8=xs
 |[],ys,_=>by simp[mixL]
 |x::r,[],h=>by simp at h
 |x::r,y::s,h=>by
  have ih:=mixL_zero (xs:=r) (ys:=s) (by simpa using h)
  unfold mixL at ih⊢
  rw[List.zipWith_cons_cons,ih,gmul_zero_r,BitVec.xor_zero]
def mixTo(xs ys:List (BitVec 8))(c:BitVec 8)(i:Nat):List (BitVec 8):=(mixL xs ys c).take i++List.replicate (xs.length-i) 0#8
theorem mixTo_len{xs ys:List (BitVec 8)}{c:BitVec 8}{i:Nat}(h:xs.length=ys.length)(hi:i≤xs.length):(mixTo xs ys c i).length=xs.length:=by
 have:=mixL_len (c:=c) h
 simp[mixTo];omega
theorem mixTo_zero{xs ys:List (BitVec 8)}{c:BitVec 8}:List.replicate xs.length 0#8=mixTo xs ys c 0:=by simp[mixTo]
theorem mixTo_all{xs ys:List (BitVec 8)}{c:BitVec 8}(h:xs.length=ys.length){i:Nat}(hi:xs.length≤i):mixTo xs ys c i=mixL xs ys c:=by
 have:=mixL_len (c:=c) h
 rw[mixTo,List.take_of_length_le (by omega),Nat.sub_eq_zero_of_le hi];simp
theorem mixTo_set{xs ys:List (BitVec 8)}{c:BitVec 8}{i:Nat}(h:xs.length=ys.length)(hi:i<xs.length)(hj:i<ys.length):(mixTo xs ys c i).set i (xs[i]^^^gmul ys[i] c)=mixTo xs ys c (i+1):=by
 have hl:=mixL_len (c:=c) h
 have hg:(mixL xs ys c)[i]'(by omega)=xs[i]^^^gmul ys[i] c:=by simp[mixL]
 unfold mixTo
 rw[List.set_append_right _ _ (by rw[List.length_take];omega),List.length_take,Nat.min_eq_left (by omega),Nat.sub_self]
 rw[show xs.length-i=(xs.length-(i+1))+1 by omega,List.replicate_succ,List.set_cons_zero,List.take_succ_eq_append_getElem (by omega),hg]
 simp
theorem mix_spec{S:Nat→Prop}{w:World}{xs ys:List (BitVec 8)}{a a2:Option Addr}{k k2:Nat}(c:BitVec 8)(h1:SB.rep S w [.slice a xs.length k] xs)(h2:SB.rep S w [.slice a2 ys.length k2] ys)(hl:xs.length=ys.length)(hby:xs.length≤140737488355328):
 Calls Tryz.prog 108 #[.slice a xs.length k,.slice a2 ys.length k2,.int .u8 ((c.toNat:Nat):Int)] w (Ret fun v w'=>Ext w w'∧∃(a':Option Addr)(k':Nat),v=.tuple #[.slice a' (mixL xs ys c).length k',.I 0]∧Hp w S [] [] [⟨Sb,5,.slice a' (mixL xs ys c).length k',mixL xs ys c⟩] [] w'):=by
 have hlen:=Shape.slice_len h1
 refine qS (fn:=Tryz.f108) (n:=44) (σ:=[(0,.slice a xs.length k),(1,.slice a2 ys.length k2),(2,.int .u8 ((c.toNat:Nat):Int))]) Tryz.func108 ?_
 have H:=Hp.startF (w:=w) (S:=S) (G:=[Rp SB [.slice a xs.length k] xs,Rp SB [.slice a2 ys.length k2] ys]) (.rp h1 (.rp h2 .nil))
 refine qR 5 [.c [1,0,1],.c [2]] [(0,.slice a xs.length k),(1,.slice a2 ys.length k2),(2,.int .u8 ((c.toNat:Nat):Int)),(16,.bool (((xs.length:Nat):Int)!=((ys.length:Nat):Int)))] ?_
 refine qN ((xs.length:Nat):Int) ((ys.length:Nat):Int) (fun h1=>?_) (fun h1=>?_)
 ·
  exact absurd h1 (by omega)
 ·
  refine qR 2 [.c [2,0],.c [3]] [(0,.slice a xs.length k),(1,.slice a2 ys.length k2),(2,.int .u8 ((c.toNat:Nat):Int))] ?_
  refine qG (sq 0 3) ?_
  refine qP 1 (sq 1 3) [(0,.slice a xs.length k),(1,.slice a2 ys.length k2),(17,.int .u8 ((c.toNat:Nat):Int))] ?_
  refine qK .seq (some 18) (sq 2 3) 166 #[.int .u8 ((c.toNat:Nat):Int)] (products_spec (S:=Av S w [] (idsOf [] [])) c) ?_
  rintro _ w2-⟨b3,rfl,H'⟩
  have H:=H.back (M1:=[]) (W1:=[]) H'
  have H:Hp w S [] [] [⟨Sb,306,.slice (some ⟨b3,0,none⟩) 256 256,prods c⟩] [Rp SB [.slice a xs.length k] xs,Rp SB [.slice a2 ys.length k2] ys] _:=H
  refine qF 1 [(0,.slice a xs.length k),(1,.slice a2 ys.length k2),(8,.P b3 0)] ?_
  refine qR 1 [.c [3,0],.c [4]] [(0,.slice a xs.length k),(1,.slice a2 ys.length k2),(8,.P b3 0)] ?_
  refine qG (sq 0 4) ?_
  refine qP 2 (sq 2 4) [(0,.slice a xs.length k),(1,.slice a2 ys.length k2),(8,.P b3 0),(20,.I ((xs.length:Nat):Int))] ?_
  refine RW.makeW Sb (κ:=.seq) (d:=some 21) (r:=(sq 3 4)) (T:=28) (e:=5) (by_:=1) (v0:=.int .u8 0) (0#8:BitVec 8) (kl:=.i64) (kc:=.i64) (lv:=((xs.length:Nat):Int)) (cv:=((xs.length:Nat):Int)) (by as_aux_lemma=>kernel_rfl) (nofun) (by as_aux_lemma=>kernel_rfl) rfl H xs.length xs.length (by omega) (by omega) (by omega) (by omega) (by omega) (fun _ _=>rfl) ?_
  intro b4 w5 H
  have H:Hp w S [] [] [⟨Sb,5,.slice (some ⟨b4,0,none⟩) xs.length xs.length,(List.replicate xs.length (0#8:BitVec 8))⟩,⟨Sb,306,.slice (some ⟨b3,0,none⟩) 256 256,prods c⟩] [Rp SB [.slice a xs.length k] xs,Rp SB [.slice a2 ys.length k2] ys] _:=H
  refine qF 1 [(0,.slice a xs.length k),(1,.slice a2 ys.length k2),(8,.P b3 0),(9,.slice (some ⟨b4,0,none⟩) xs.length xs.length)] ?_
  refine qR 4 [.c [4,0,1,0],.b 0,.c [5]] [(0,.slice a xs.length k),(8,.P b3 0),(9,.slice (some ⟨b4,0,none⟩) xs.length xs.length),(22,.slice a2 ys.length k2),(23,.I ((ys.length:Nat):Int)),(24,.I 0)] ?_
  have H:=H.reW (mixTo_zero (xs:=xs) (ys:=ys) (c:=c))
  have H:=H.perms (List.Perm.refl _) (List.Perm.swap _ _ _)
  refine WK.loop (α:=Nat) (b:=cd Tryz.prog 108 [4,0,1,0,0]) (by as_aux_lemma=>kernel_rfl) (fun i=>[(0,.slice a xs.length k),(8,.P b3 0),(9,.slice (some ⟨b4,0,none⟩) xs.length xs.length),(22,.slice a2 ys.length k2),(23,.I ((ys.length:Nat):Int)),(24,.I i)]) (fun i w'=>Hp w S [] [] [⟨Sb,306,.slice (some ⟨b3,0,none⟩) 256 256,prods c⟩,⟨Sb,5,.slice (some ⟨b4,0,none⟩) xs.length xs.length,mixTo xs ys c i⟩] [Rp SB [.slice a xs.length k] xs,Rp SB [.slice a2 ys.length k2] ys] w'∧i≤xs.length) (fun i=>xs.length-i) 0 ⟨H,Nat.zero_le _⟩ (rfl) ?_
  rintro i w7⟨H,hinv0⟩hback6
  refine qR 3 [.c [4,0,1,0,0,1,0],.c [4,0,1,0,0,2],.l [4,0,1,0,0],.b 0,.c [5]] [(0,.slice a xs.length k),(8,.P b3 0),(9,.slice (some ⟨b4,0,none⟩) xs.length xs.length),(22,.slice a2 ys.length k2),(23,.I ((ys.length:Nat):Int)),(24,.I i),(25,.bool (decide (((i:Int):Int)<((ys.length:Nat):Int))))] ?_
  refine qD (((i:Int):Int)<((ys.length:Nat):Int)) (fun h8=>?_) (fun h8=>?_)
  ·
   refine qR 4 [.c [4,0,1,0,0,2,0,0,0],.c [4,0,1,0,0,2,0,0,1],.b 1,.c [4,0,1,0,0,3],.l [4,0,1,0,0],.b 0,.c [5]] [(0,.slice a xs.length k),(8,.P b3 0),(9,.slice (some ⟨b4,0,none⟩) xs.length xs.length),(22,.slice a2 ys.length k2),(23,.I ((ys.length:Nat):Int)),(24,.I i)] ?_
   refine qG (sq 0 5) ?_
   refine qP 1 (sq 1 5) [(0,.slice a xs.length k),(8,.P b3 0),(9,.slice (some ⟨b4,0,none⟩) xs.length xs.length),(22,.slice a2 ys.length k2),(23,.I ((ys.length:Nat):Int)),(24,.I i),(26,.I i)] ?_
   have hx9:i<ys.length:=by omega
   refine qX .seq 27 (sq 2 5) 28 5 (i:Int) Sb (ys[i]) H 1 rfl i (by omega) (List.getElem?_eq_getElem hx9) ?_
   intro b10 o11 es12 hr13 H
   obtain rfl:=hr13
   refine qL .seq 28 (sq 3 5) 5 b10 o11 0 (.int .u8 (((ys[i]).toNat:Nat):Int)) (H.fc 0 rfl) ?_
   refine qF 2 [(0,.slice a xs.length k),(8,.P b3 0),(9,.slice (some ⟨b4,0,none⟩) xs.length xs.length),(10,.I i),(11,.int .u8 (((ys[i]).toNat:Nat):Int)),(22,.slice a2 ys.length k2),(23,.I ((ys.length:Nat):Int)),(24,.I i)] ?_
   refine WK.draw1 13 (qs [0,1,2,3,4,5,6,7,8,9,10,11,12]) [(0,.qui),(1,.qui),(2,.qui),(3,.qui),(4,.qui),(5,.qui),(6,.qui),(7,.qui),(8,.qui),(9,.qui),(10,.qui),(11,.qui),(12,.qui),(13,.seq)] Tryz_mixed (by as_aux_lemma=>kernel_rfl) (by as_aux_lemma=>kernel_rfl) (by as_aux_lemma=>kernel_rfl) ?_
   have H:=H.draw
   generalize({w7 with drawn:=w7.drawn+1}:World)=w14 at H⊢
   refine qP 4 [(4,.qui),(5,.qui),(6,.qui),(7,.qui),(8,.qui),(9,.qui),(10,.qui),(11,.qui),(12,.qui),(13,.seq)] [(0,.slice a xs.length k),(8,.P b3 0),(9,.slice (some ⟨b4,0,none⟩) xs.length xs.length),(11,.int .u8 (((ys[i]).toNat:Nat):Int)),(22,.slice a2 ys.length k2),(23,.I ((ys.length:Nat):Int)),(24,.I i),(29,.slice (some ⟨b4,0,none⟩) xs.length xs.length),(30,.I i),(31,.slice a xs.length k),(32,.I i)] ?_
   have hx15:i<xs.length:=by omega
   refine qX .qui 33 [(5,.qui),(6,.qui),(7,.qui),(8,.qui),(9,.qui),(10,.qui),(11,.qui),(12,.qui),(13,.seq)] 28 5 (i:Int) Sb (xs[i]) H 1 rfl i (by omega) (List.getElem?_eq_getElem hx15) ?_
   intro b16 o17 es18 hr19 H
   obtain rfl:=hr19
   refine qL .qui 34 [(6,.qui),(7,.qui),(8,.qui),(9,.qui),(10,.qui),(11,.qui),(12,.qui),(13,.seq)] 5 b16 o17 0 (.int .u8 (((xs[i]).toNat:Nat):Int)) (H.fc 0 rfl) ?_
   refine qP 3 [(9,.qui),(10,.qui),(11,.qui),(12,.qui),(13,.seq)] [(0,.slice a xs.length k),(8,.P b3 0),(9,.slice (some ⟨b4,0,none⟩) xs.length xs.length),(22,.slice a2 ys.length k2),(23,.I ((ys.length:Nat):Int)),(24,.I i),(29,.slice (some ⟨b4,0,none⟩) xs.length xs.length),(30,.I i),(34,.int .u8 (((xs[i]).toNat:Nat):Int)),(36,.int .u8 (((ys[i]).toNat:Nat):Int)),(37,.P b3 0)] ?_
   refine RW.indexP (κ:=.qui) (d:=some 38) (r:=[(10,.qui),(11,.qui),(12,.qui),(13,.seq)]) (T:=306) (e:=5) (N:=256) (m:=1) (b:=b3) (o:=0) (o2:=(ys[i]).toNat) (ik:=.u8) (ix:=(((ys[i]).toNat:Nat):Int)) (by as_aux_lemma=>kernel_rfl) (by as_aux_lemma=>kernel_rfl) ((ys[i]).toNat) (by omega) (by have:=(ys[i]).isLt;omega) (by omega) ?_
   have hx20:(ys[i]).toNat<(prods c).length:=by have:=(ys[i]).isLt;rw[prods_len];omega
   refine qL .qui 39 [(11,.qui),(12,.qui),(13,.seq)] 5 b3 ((ys[i]).toNat) 0 (.int .u8 (((gmul (ys[i]) c).toNat:Nat):Int)) (show Cells _ _ _ [.int .u8 (((gmul (ys[i]) c).toNat:Nat):Int)]from by have hq:=H.ownBv ((ys[i]).toNat) hx20 ((prods_len _).symm);rw[prods_get _]at hq;exact hq) ?_
   refine RW.pv (κ:=.qui) (d:=some 40) (r:=[(12,.qui),(13,.seq)]) (v:=.int .u8 (IntKind.u8.wrap ((BitVec.ofInt 8 (((xs[i]).toNat:Nat):Int)^^^BitVec.ofInt 8 (((gmul (ys[i]) c).toNat:Nat):Int)).toNat:Nat))) (v':=.int .u8 (((((xs[i])^^^(gmul (ys[i]) c)).toNat:Nat):Int))) (by as_aux_lemma=>kernel_rfl) (bv_xor8 (bvi _) (bvi _)) ?_
   have H:=H.frontW 1 (W':=[⟨Sb,5,.slice (some ⟨b4,0,none⟩) xs.length xs.length,mixTo xs ys c i⟩,⟨Sb,306,.slice (some ⟨b3,0,none⟩) 256 256,prods c⟩]) rfl
   have hn22:xs.length=(mixTo xs ys c i).length:=(mixTo_len hl (by omega)).symm
   have hx21:i<(mixTo xs ys c i).length:=by rw[mixTo_len hl (by omega)];omega
   refine RW.indexW (κ:=.qui) (d:=some 41) (r:=[(13,.seq)]) (T:=28) (e:=5) (m:=1) (ik:=.i64) (ix:=(i:Int)) (sh:=Sb) (xs:=mixTo xs ys c i) (a:=(some ⟨b4,0,none⟩)) (len:=xs.length) (cap:=xs.length) (by as_aux_lemma=>kernel_rfl) (by as_aux_lemma=>kernel_rfl) rfl H i (by omega) hx21 hn22 ?_
   intro b23 es24 ha25 hcell26 hr27
   obtain rfl:=hr27
   refine RW.storeW (d:=none) (r:=[]) (e:=5) (m:=1) (b:=b23) (k:=i) (v:=.int .u8 ((((xs[i])^^^(gmul (ys[i]) c)).toNat:Nat):Int)) (by as_aux_lemma=>kernel_rfl) rfl (by as_aux_lemma=>kernel_rfl) H ha25 hx21 hn22 ((xs[i])^^^(gmul (ys[i]) c)) Shape.bv_mk ?_
   intro w28 H
   have H:=H.reW (ys:=mixTo xs ys c (i+1)) (mixTo_set hl (by omega) (by omega))
   refine qF 0 [(0,.slice a xs.length k),(8,.P b3 0),(9,.slice (some ⟨b4,0,none⟩) xs.length xs.length),(22,.slice a2 ys.length k2),(23,.I ((ys.length:Nat):Int)),(24,.I i)] ?_
   refine qR 1 [.c [4,0,1,0,0,3],.l [4,0,1,0,0],.b 0,.c [5]] [(0,.slice a xs.length k),(8,.P b3 0),(9,.slice (some ⟨b4,0,none⟩) xs.length xs.length),(22,.slice a2 ys.length k2),(23,.I ((ys.length:Nat):Int)),(24,.I i)] ?_
   refine qG (sq 0 2) ?_
   refine qI .seq 42 (sq 1 2) ((i:Int)+1) ?_
   refine qF 1 [(0,.slice a xs.length k),(8,.P b3 0),(9,.slice (some ⟨b4,0,none⟩) xs.length xs.length),(22,.slice a2 ys.length k2),(23,.I ((ys.length:Nat):Int)),(24,.I ((i:Int)+1))] ?_
   have H:=H.pick [2,3] rfl
   have H:=H.frontW 1 (W':=[⟨Sb,306,.slice (some ⟨b3,0,none⟩) 256 256,prods c⟩,⟨Sb,5,.slice (some ⟨b4,0,none⟩) xs.length xs.length,mixTo xs ys c (i+1)⟩]) rfl
   exact WK.back (hback6 (i+1) _ ⟨H,by omega⟩ (by first|omega|(simp only[];omega))) (by as_aux_lemma=>kernel_rfl)
  ·
   refine qR 3 [.c [6]] [(6,.slice (some ⟨b4,0,none⟩) xs.length xs.length),(7,.I 0)] ?_
   refine qT (.tuple #[.slice (some ⟨b4,0,none⟩) xs.length xs.length,.I 0]) Tryz.func108 ?_
   have H:=H.frontW 1 (W':=[⟨Sb,5,.slice (some ⟨b4,0,none⟩) xs.length xs.length,mixTo xs ys c i⟩,⟨Sb,306,.slice (some ⟨b3,0,none⟩) 256 256,prods c⟩]) rfl
   have H:=H.drop (M':=[]) (W':=[_]) (List.Sublist.refl _) (List.Sublist.cons_cons _ (List.nil_sublist _))
   exact⟨_,rfl,H.done,_,_,(by rw[mixL_len hl]),(H.pick [] rfl).reW (mixTo_all hl (by omega)) (by rw[mixL_len hl])⟩
end Go.Proofs.YtcafjhnjhhicdaaGreatDoor
