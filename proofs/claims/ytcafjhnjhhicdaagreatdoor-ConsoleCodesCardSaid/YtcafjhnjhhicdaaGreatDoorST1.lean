import Derived.Test.YtcafjhnjhhicdaaGreatDoorSP6
namespace Go.Proofs.YtcafjhnjhhicdaaGreatDoor
open Go.BX
theorem encD_all{xs:List (BitVec 8)}{k n:Nat}:∀d∈enc xs k n,d.length=lenOf xs.length k:=by
 intro d hd
 unfold enc at hd
 rcases List.mem_append.1 hd with h|h
 · exact dataOf_all _ _ _ d h
 · obtain⟨j,_,rfl⟩:=List.mem_map.1 h
   exact mixAll_len List.length_replicate (dataOf_all _ _ _)
theorem cat_plain{xs:List (BitVec 8)}{l:Nat}:∀i:Nat,((List.range i).map (chunk xs l)).flatten=xs.take (i*l)++List.replicate (i*l-xs.length) 0#8
 |0=>by simp
 |i+1=>by
  rw[List.range_succ,List.map_append,List.flatten_append,cat_plain i]
  simp only[List.map_cons,List.map_nil,List.flatten_cons,List.flatten_nil,List.append_nil,chunk]
  have hs:(i+1)*l=i*l+l:=Nat.succ_mul i l
  rcases Nat.lt_or_ge xs.length (i*l)with h | h
  · have e1 : xs.take (i *l)=xs:=List.take_of_length_le (by omega)
    have e2:xs.drop (i*l)=[]:=List.drop_of_length_le (by omega)
    have e3:xs.take ((i+1)*l)=xs:=List.take_of_length_le (by omega)
    rw[e1,e2, e3, List.take_nil, List.nil_append, List.append_assoc, List.replicate_append_replicate]
    congr 2
    omega
  · rw[Nat.sub_eq_zero_of_le h,List.replicate_zero,List.append_nil,←List.append_assoc,hs,List.take_add]
    congr 2
    omega
theorem gexp_zero:gexp 0=1#8:=by decide+kernel
theorem xt_zero:xt 0#8=0#8:=by decide
theorem xt_gexp'(i:Nat):xt (gexp i)=gexp (i+1):=by
 rw[←gexp_mod i,xt_gexp (Nat.mod_lt _ (by omega)),←gexp_mod (i%255+1),←gexp_mod (i+1)]
 congr 1
 omega
theorem gm_xt:∀(n:Nat)(a b:BitVec 8),gm n (xt a) b=xt (gm n a b)
 |0,_,_=>xt_zero.symm
 |n+1,a,b=>by
  show(if(((b&&&1#8).toNat:Nat):Int)>0 then xt a else 0#8)^^^gm n (xt (xt a)) (b>>>1)=xt ((if(((b&&&1#8).toNat:Nat):Int)>0 then a else 0#8)^^^gm n (xt a) (b>>>1))
  rw[xt_xor,gm_xt n]
  split
  ·rfl
  ·rw[xt_zero]
theorem gmul_xt(a b:BitVec 8):gmul (xt a) b=xt (gmul a b):=gm_xt 8 a b
theorem one_gmul':∀b<256,gmul 1#8 (BitVec.ofNat 8 b)=BitVec.ofNat 8 b:=by decide+kernel
theorem bv_of(b:BitVec 8):b=BitVec.ofNat 8 b.toNat:=by simp
theorem one_gmul(b:BitVec 8):gmul 1#8 b=b:=by
 have:=one_gmul' b.toNat b.isLt
 rwa[←bv_of]at this
theorem gmul_gexp:∀i j:Nat,gmul (gexp i) (gexp j)=gexp (i+j)
 |0,j=>by rw[gexp_zero,one_gmul,Nat.zero_add]
 |i+1,j=>by
  rw[←xt_gexp' i,gmul_xt,gmul_gexp i j,xt_gexp']
  congr 1
  omega
theorem gexp_log':∀b<256,b≠0→gexp (glog (BitVec.ofNat 8 b)).toNat=BitVec.ofNat 8 b:=by decide+kernel
theorem gexp_log{b:BitVec 8}(h:b≠0#8):gexp (glog b).toNat=b:=by
 have h0:b.toNat≠0:=fun e=>h (BitVec.eq_of_toNat_eq (by rw[e];rfl))
 have:=gexp_log' b.toNat b.isLt h0
 rwa[←bv_of]at this
theorem gexp_ne':∀i<255,gexp i≠0#8:=by decide+kernel
theorem gexp_ne(i:Nat):gexp i≠0#8:=by
 rw[←gexp_mod i]
 exact gexp_ne' _ (Nat.mod_lt _ (by omega))
theorem gmul_comm(a b:BitVec 8):gmul a b=gmul b a:=by
 by_cases ha:a=0#8
 ·rw[ha,gmul_zero_l,gmul_zero_r]
 · by_cases hb:b=0#8
   ·rw[hb,gmul_zero_l,gmul_zero_r]
   ·rw[←gexp_log ha,←gexp_log hb,gmul_gexp,gmul_gexp,Nat.add_comm]
theorem gmul_assoc(a b c:BitVec 8):gmul (gmul a b) c=gmul a (gmul b c):=by
 by_cases ha:a=0#8
 ·rw[ha,gmul_zero_l,gmul_zero_l,gmul_zero_l]
 · by_cases hb : b=0#8
   ·simp only[hb,gmul_zero_l,gmul_zero_r]
   · by_cases hc : c=0#8
     ·rw[hc,gmul_zero_r,gmul_zero_r,gmul_zero_r]
     ·rw[←gexp_log ha,←gexp_log hb,←gexp_log hc,gmul_gexp,gmul_gexp,gmul_gexp,gmul_gexp,Nat.add_assoc]
theorem gmul_one(a:BitVec 8):gmul a 1#8=a:=by rw[gmul_comm,one_gmul]
theorem gmul_xor_r(a b b':BitVec 8):gmul a (b^^^b')=gmul a b^^^gmul a b':=by
 rw[gmul_comm,gmul_xor,gmul_comm b,gmul_comm b']
theorem gmul_inv{b:BitVec 8}(h:b≠0#8):gmul b (ginv b)=1#8:=by
 have h1:=(glog_nat (b:=b) fun e=>h (BitVec.eq_of_toNat_eq (by rw[show(0#8).toNat=0 from rfl];omega))).2
 conv=>lhs;arg 1;rw[←gexp_log h]
 unfold ginv
 rw[gmul_gexp,show(glog b).toNat+(255-(glog b).toNat)=255 by omega,←gexp_mod,show 255%255=0 from rfl,gexp_zero]
theorem ginv_ne(b:BitVec 8):ginv b≠0#8:=gexp_ne _
theorem gmul_ne{a b:BitVec 8}(ha:a≠0#8)(hb:b≠0#8):gmul a b≠0#8:=by
 rw[←gexp_log ha,←gexp_log hb,gmul_gexp]
 exact gexp_ne _
theorem gmul_zero_iff{a b:BitVec 8}(h:gmul a b=0#8)(hb:b≠0#8):a=0#8:=
 Classical.byContradiction fun ha=>gmul_ne ha hb h
theorem xor_zero_iff{a b:BitVec 8}(h:a^^^b=0#8):a=b:=by
 have h1:a^^^b^^^b=b:=by rw[h,BitVec.zero_xor]
 rwa[BitVec.xor_assoc,BitVec.xor_self,BitVec.xor_zero]at h1
def sumN:Nat→(Nat→BitVec 8)→BitVec 8
 |0,_=>0#8
 |n+1,f=>sumN n f^^^f n
theorem sumN_congr{f g:Nat→BitVec 8}:∀{n:Nat},(∀i<n,f i=g i)→sumN n f=sumN n g
 |0,_=>rfl
 |n+1,h=>by rw[sumN,sumN,sumN_congr (n:=n) fun i hi=>h i (by omega),h n (by omega)]
theorem sumN_zero{f:Nat→BitVec 8}:∀{n:Nat},(∀i<n,f i=0#8)→sumN n f=0#8
 |0,_=>rfl
 |n+1,h=>by rw[sumN,sumN_zero (n:=n) fun i hi=>h i (by omega),h n (by omega)];rfl
theorem sumN_xor(f g:Nat→BitVec 8):∀n:Nat,sumN n (fun i=>f i^^^g i)=sumN n f^^^sumN n g
 |0=>BitVec.xor_self.symm
 |n+1=>by
  rw[sumN,sumN,sumN,sumN_xor f g n]
  ac_rfl
theorem sumN_mul(f:Nat→BitVec 8)(c:BitVec 8):∀n:Nat,sumN n (fun i=>gmul (f i) c)=gmul (sumN n f) c
 |0=>(gmul_zero_l c).symm
 |n+1=>by rw[sumN,sumN,sumN_mul f c n,gmul_xor]
theorem sumN_one{f:Nat→BitVec 8}{n i:Nat}(hi:i<n)(h:∀j<n,j≠i→f j=0#8):sumN n f=f i:=by
 induction n with
 |zero=>omega
 |succ n ih=>
  rw[sumN]
  rcases Nat.lt_or_eq_of_le (Nat.le_of_lt_succ hi)with h1|h1
  ·rw[ih h1 fun j hj hji=>h j (by omega) hji, h n (by omega) (by omega), BitVec.xor_zero]
  · subst h1
    rw[sumN_zero fun j hj=>h j (by omega) (by omega),BitVec.zero_xor]
theorem sumN_two{f:Nat→BitVec 8}{n i m:Nat}(hi:i<n)(hm:m<n)(him:i≠m)(h:∀j<n,j≠i→j≠m→f j=0#8):sumN n f=f i^^^f m:=by
 have e:sumN n f=sumN n (fun j=>(if j=i then f j else 0#8)^^^(if j=i then 0#8 else f j)):=sumN_congr fun j _=>by
  by_cases hj:j=i
  ·rw[if_pos hj,if_pos hj,BitVec.xor_zero]
  ·rw[if_neg hj,if_neg hj,BitVec.zero_xor]
 rw[e,sumN_xor,sumN_one hi fun j _ hji=>if_neg hji,sumN_one hm fun j hj hjm=>?_,if_pos rfl,if_neg (Ne.symm him)]
 by_cases hj2 : j = i
 · exact if_pos hj2
 · rw[if_neg hj2]
   exact h j hj hj2 hjm
def dot(k:Nat)(r v:Nat→BitVec 8):BitVec 8:=sumN k fun j=>gmul (v j) (r j)
theorem dot_congr{k:Nat}{r r' v v':Nat→BitVec 8}(h:∀j<k,r j=r' j)(h2:∀j<k,v j=v' j):dot k r v=dot k r' v':=
 sumN_congr fun j hj=>by rw[h j hj,h2 j hj]
theorem dot_mix(k:Nat)(r s v:Nat→BitVec 8)(c:BitVec 8):dot k (fun j=>r j^^^gmul (s j) c) v=dot k r v^^^gmul (dot k s v) c:=by
 unfold dot
 rw[←sumN_mul,←sumN_xor]
 exact sumN_congr fun j _=>by rw[gmul_xor_r,gmul_assoc]
theorem dot_scale(k:Nat)(s v:Nat→BitVec 8)(c:BitVec 8):dot k (fun j=>gmul (s j) c) v=gmul (dot k s v) c:=by
 unfold dot
 rw[←sumN_mul]
 exact sumN_congr fun j _=>by rw[gmul_assoc]
theorem dot_unit{k i:Nat}{r v:Nat→BitVec 8}(hi:i<k)(h:∀j<k,r j=if j=i then 1#8 else 0#8):dot k r v=v i:=by
 unfold dot
 rw[sumN_one hi fun j hj hji=>by rw[h j hj,if_neg hji,gmul_zero_r],h i hi,if_pos rfl,gmul_one]
abbrev Mx:=Nat→Nat→BitVec 8
structure GJ(k:Nat)(A L R:Mx)(m:Nat):Prop where
 fwd:∀d p:Nat→BitVec 8,(∀i<k,dot k (A i) d=p i)→∀i<k,dot k (L i) d=dot k (R i) p
 ker:∀v:Nat→BitVec 8,(∀i<k,dot k (L i) v=0#8)→∀i<k,dot k (A i) v=0#8
 unit:∀c<m,∀i<k,L i c=if i=c then 1#8 else 0#8
theorem GJ.start{k:Nat}{A R:Mx}(hR:∀i<k,∀j<k,R i j=if j=i then 1#8 else 0#8):GJ k A A R 0 where
 fwd d p h i hi:=by rw[h i hi,dot_unit hi (hR i hi)]
 ker _ h:=h
 unit c hc:=absurd hc (Nat.not_lt_zero _)
theorem GJ.congr{k m:Nat}{A L R L' R':Mx}(h:GJ k A L R m)(hL:∀i<k,∀j<k,L' i j=L i j)(hR:∀i<k,∀j<k,R' i j=R i j)(hm:m≤k):GJ k A L' R' m where
 fwd d p h1 i hi:=by rw[dot_congr (hL i hi) fun _ _=>rfl,dot_congr (hR i hi) fun _ _=>rfl];exact h.fwd d p h1 i hi
 ker v h1:=h.ker v fun i hi=>by rw[←h1 i hi];exact dot_congr (fun j hj=>(hL i hi j hj).symm) fun _ _=>rfl
 unit c hc i hi:=by rw[hL i hi c (by omega)];exact h.unit c hc i hi
def swp(a b i:Nat):Nat:=if i=a then b else if i=b then a else i
theorem swp_lt{a b i k:Nat}(ha:a<k)(hb:b<k)(hi:i<k):swp a b i<k:=by
 unfold swp;split
 · exact hb
 · split
   ·exact ha
   ·exact hi
theorem swp_swp(a b i:Nat):swp a b (swp a b i)=i:=by
 unfold swp
 by_cases h1:i=a
 · rw[if_pos h1]
   by_cases h2 :b=a
   ·rw[if_pos h2];omega
   ·rw[if_neg h2,if_pos rfl];omega
 · rw[if_neg h1]
   by_cases h2 :i=b
   ·rw[if_pos h2,if_pos rfl];omega
   ·rw[if_neg h2,if_neg h1,if_neg h2]
theorem GJ.swap{k m a:Nat}{A L R:Mx}(h:GJ k A L R m)(ha:a<k)(hma:m≤a):GJ k A (fun i=>L (swp a m i)) (fun i=>R (swp a m i)) m where
 fwd d p h1 i hi:=h.fwd d p h1 _ (swp_lt ha (by omega) hi)
 ker v h1:=h.ker v fun i hi=>by
  have:=h1 (swp a m i) (swp_lt ha (by omega) hi)
  simp only[swp_swp]at this
  exact this
 unit c hc i hi:=by
  rw[h.unit c hc _ (swp_lt ha (by omega) hi)]
  by_cases h2:i= c
  · have :swp a m i=i:=by unfold swp;rw[if_neg (by omega), if_neg (by omega)]
    rw[this]
  · rw[if_neg h2, if_neg]
    unfold swp
    split
    ·omega
    ·split<;>omega
theorem GJ.clear{k m:Nat}{A L R:Mx}(h:GJ k A L R m)(hm:m<k)(hp:L m m≠0#8):
 GJ k A (fun i j=>if i=m then gmul (L m j) (ginv (L m m))else L i j^^^gmul (gmul (L m j) (ginv (L m m))) (L i m)) (fun i j=>if i=m then gmul (R m j) (ginv (L m m))else R i j^^^gmul (gmul (R m j) (ginv (L m m))) (L i m)) (m+1)where
 fwd d p h1 i hi:=by
  have e0:=h.fwd d p h1 m hm
  have e1:=h.fwd d p h1 i hi
  by_cases him:i=m
  · simp only[him, if_true]
    rw[dot_scale, dot_scale, e0]
  · simp only[him, if_false]
    rw[dot_mix, dot_mix,dot_scale,dot_scale,e0,e1]
 ker v h1:=h.ker v fun i hi=>by
  have e0:=h1 m hm
  simp only[if_true]at e0
  rw[dot_scale]at e0
  have e2:=gmul_zero_iff e0 (ginv_ne _)
  by_cases him: i = m
  · rw[him]; exact e2
  · have e1 :=h1 i hi
    simp only[him,if_false]at e1
    rw[dot_mix,dot_scale,e2,gmul_zero_l,gmul_zero_l,BitVec.xor_zero]at e1
    exact e1
 unit c hc i hi:=by
  by_cases hcm:c=m
  · rw[hcm]
    by_cases him : i = m
    · simp only[him, if_true]
      exact gmul_inv hp
    · simp only[him, if_false]
      rw[gmul_inv hp, one_gmul, BitVec.xor_self]
  · have h0 := h.unit c (by omega) m hm
    rw[if_neg (by omega)]at h0
    by_cases him : i = m
    · simp only[him, if_true]
      rw[h0, gmul_zero_l, if_neg (by omega)]
    · simp only[him, if_false]
      rw[h0, gmul_zero_l, gmul_zero_l, BitVec.xor_zero]
      exact h.unit c (by omega) i hi
def pivV(L:Mx)(m j:Nat):BitVec 8:=if j<m then L j m else if j=m then 1#8 else 0#8
theorem pivV_lt{L:Mx}{m j:Nat}(h:j<m):pivV L m j=L j m:=if_pos h
theorem pivV_eq{L:Mx}{m:Nat}:pivV L m m=1#8:=by unfold pivV;rw[if_neg (by omega),if_pos rfl]
theorem pivV_gt{L:Mx}{m j:Nat}(h:¬j<m)(h2:j≠m):pivV L m j=0#8:=by unfold pivV;rw[if_neg h,if_neg h2]
theorem GJ.pivot{k m:Nat}{A L R:Mx}(h:GJ k A L R m)(hm:m<k)(hk:∀v:Nat→BitVec 8,(∀i<k,dot k (A i) v=0#8)→∀i<k,v i=0#8):∃i,m≤i∧i<k∧L i m≠0#8:=by
 refine Classical.byContradiction fun hn=>?_
 have hz:∀i,m≤i→i<k→L i m=0#8:=fun i h1 h2=>Classical.byContradiction fun h3=>hn ⟨i, h1, h2, h3⟩
 have h1 := hk (pivV L m) (h.ker _ fun i hi =>?_) m hm
 · rw[pivV_eq]at h1
   exact absurd h1 (by decide)
 · unfold dot
   by_cases him : i < m
   · rw[sumN_two (i := i) (m :=m) hi hm (by omega) fun j hj hji hjm=>?_]
     ·rw[pivV_lt him,pivV_eq,one_gmul,h.unit i him i hi,if_pos rfl,gmul_one, BitVec.xor_self]
     · by_cases hjl : j < m
       · rw[h.unit j hjl i hi,if_neg (by omega),gmul_zero_r]
       ·rw[pivV_gt hjl hjm,gmul_zero_l]
   ·exact sumN_zero fun j hj=>by
      by_cases hjl: j < m
      · rw[h.unit j hjl i hi, if_neg (by omega), gmul_zero_r]
      · by_cases hjm :j=m
        ·rw[hjm,hz i (by omega) hi,gmul_zero_r]
        ·rw[pivV_gt hjl hjm,gmul_zero_l]
theorem GJ.solve{k:Nat}{A L R:Mx}(h:GJ k A L R k){d p:Nat→BitVec 8}(hp:∀i<k,dot k (A i) d=p i){i:Nat}(hi:i<k):dot k (R i) p=d i:=by
 rw[←h.fwd d p hp i hi]
 exact dot_unit hi fun j hj=>by
  rw[h.unit j hj i hi]
  by_cases hij:i=j
  ·rw[if_pos hij,if_pos hij.symm]
  ·rw[if_neg hij,if_neg (Ne.symm hij)]
def sumL{α:Type}(l:List α)(f:α→BitVec 8):BitVec 8:=l.foldr (fun x s=>f x^^^s) 0#8
theorem sumL_cons{α:Type}(x:α)(l:List α)(f:α→BitVec 8):sumL (x::l) f=f x^^^sumL l f:=rfl
theorem sumL_congr{α:Type}{f g:α→BitVec 8}:∀{l:List α},(∀x∈l,f x=g x)→sumL l f=sumL l g
 |[],_=>rfl
 |x::l,h=>by rw[sumL_cons,sumL_cons,h x (List.mem_cons_self ..),sumL_congr fun y hy=>h y (List.mem_cons_of_mem _ hy)]
theorem sumL_zero{α:Type}:∀l:List α,sumL l (fun _=>0#8)=0#8
 |[]=>rfl
 |x::l=>by rw[sumL_cons,sumL_zero l];rfl
theorem sumL_xor{α:Type}(f g:α→BitVec 8):∀l:List α,sumL l (fun x=>f x^^^g x)=sumL l f^^^sumL l g
 |[]=>BitVec.xor_self.symm
 |x::l=>by
  rw[sumL_cons,sumL_cons,sumL_cons,sumL_xor f g l]
  ac_rfl
theorem sumL_mul{α:Type}(f:α→BitVec 8)(c:BitVec 8):∀l:List α,sumL l (fun x=>gmul (f x) c)=gmul (sumL l f) c
 |[]=>(gmul_zero_l c).symm
 |x::l=>by rw[sumL_cons,sumL_cons,sumL_mul f c l,gmul_xor]
theorem xor_ne{a b:BitVec 8}(h:a≠b):a^^^b≠0#8:=fun e=>h (xor_zero_iff e)
theorem cauchy_step{x x0 y y0:BitVec 8}(h1:x^^^y≠0#8)(h2:x0^^^y≠0#8):gmul (x^^^y0) (ginv (x^^^y))^^^gmul (x0^^^y0) (ginv (x0^^^y))=gmul (gmul (y^^^y0) (ginv (x0^^^y))) (gmul (ginv (x^^^y)) (x^^^x0)):=by
 have key:gmul (gmul (x^^^y0) (ginv (x^^^y))^^^gmul (x0^^^y0) (ginv (x0^^^y))) (gmul (x^^^y) (x0^^^y))=gmul (gmul (gmul (y^^^y0) (ginv (x0^^^y))) (gmul (ginv (x^^^y)) (x^^^x0))) (gmul (x^^^y) (x0^^^y)):=by
  have i1:gmul (ginv (x^^^y)) (x^^^y)=1#8:=by rw[gmul_comm];exact gmul_inv h1
  have i2:gmul (ginv (x0^^^y)) (x0^^^y)=1#8:=by rw[gmul_comm];exact gmul_inv h2
  generalize ginv (x^^^y)=u at i1⊢
  generalize ginv (x0^^^y)=v at i2⊢
  have l1:gmul (gmul (x^^^y0) u) (gmul (x^^^y) (x0^^^y))=gmul (x^^^y0) (x0^^^y):=by
   rw[gmul_assoc,←gmul_assoc u,i1,one_gmul]
  have l2:gmul (gmul (x0^^^y0) v) (gmul (x^^^y) (x0^^^y))=gmul (x0^^^y0) (x^^^y):=by
   rw[gmul_comm (x^^^y),gmul_assoc,←gmul_assoc v,i2,one_gmul]
  have l3:gmul (gmul (gmul (y^^^y0) v) (gmul u (x^^^x0))) (gmul (x^^^y) (x0^^^y))=gmul (y^^^y0) (x^^^x0):=by
   have a1:gmul (gmul u (x^^^x0)) (gmul (x^^^y) (x0^^^y))=gmul (x^^^x0) (x0^^^y):=by
    rw[gmul_comm u,gmul_assoc,←gmul_assoc u,i1,one_gmul]
   rw[gmul_assoc,a1,gmul_comm (x^^^x0),gmul_assoc,←gmul_assoc v,i2,one_gmul]
  rw[gmul_xor,l1,l2,l3]
  simp only[gmul_xor,gmul_xor_r]
  rw[gmul_comm x0 x,gmul_comm y0 x0,gmul_comm y x,gmul_comm y0 x,gmul_comm y x0,gmul_comm y0 y]
  generalize gmul x x0=a
  generalize gmul x y=b
  generalize gmul x0 y0=c
  generalize gmul x0 y=d
  generalize gmul x y0=e
  generalize gmul y y0=f
  refine Eq.trans (b:=a^^^(a^^^(b^^^(c^^^(d^^^(e^^^(f^^^f))))))) (by ac_rfl) ?_
  rw[BitVec.xor_self,BitVec.xor_zero,←BitVec.xor_assoc a,BitVec.xor_self,BitVec.zero_xor]
  ac_rfl
 have hne:=gmul_ne h1 h2
 have hz:gmul ((gmul (x^^^y0) (ginv (x^^^y))^^^gmul (x0^^^y0) (ginv (x0^^^y)))^^^gmul (gmul (y^^^y0) (ginv (x0^^^y))) (gmul (ginv (x^^^y)) (x^^^x0))) (gmul (x^^^y) (x0^^^y))=0#8:=by
  rw[gmul_xor,key,BitVec.xor_self]
 exact xor_zero_iff (gmul_zero_iff hz hne)
theorem cauchy:∀{l:List (BitVec 8×BitVec 8)}{xs:List (BitVec 8)},xs.length=l.length→xs.Nodup→(l.map Prod.fst).Nodup→(∀x∈xs,∀p∈l,x≠p.1)→
 (∀x∈xs,sumL l (fun p=>gmul p.2 (ginv (x^^^p.1)))=0#8)→∀p∈l,p.2=0#8
 |[],_,_,_,_,_,_=>fun p hp=>by cases hp
 |(y0,v0)::l,[],h,_,_,_,_=>by cases h
 |(y0,v0)::l,x0::xs,h,hx,hy,hd,hs=>by
  have hxn:=List.nodup_cons.1 hx
  rw[List.map_cons]at hy
  have hyn:=List.nodup_cons.1 hy
  have h0:=hs x0 (List.mem_cons_self ..)
  rw[sumL_cons]at h0
  have hd0:∀p∈l,x0^^^p.1≠0#8:=fun p hp=>xor_ne (hd x0 (List.mem_cons_self ..) p (List.mem_cons_of_mem _ hp))
  have hd1:∀x∈x0::xs,x^^^y0≠0#8:=fun x hx=>xor_ne (hd x hx (y0,v0) (List.mem_cons_self ..))
  have hyy:∀p∈l,p.1^^^y0≠0#8:=fun p hp=>xor_ne fun e=>hyn.1 (by show y0∈_;rw[←e];exact List.mem_map_of_mem hp)
  -- the smaller system
  have ih:=cauchy (l:=l.map fun p=>(p.1,gmul p.2 (gmul (p.1^^^y0) (ginv (x0^^^p.1))))) (xs:=xs) (by simpa using h) hxn.2 (by rw[List.map_map];exact hyn.2)
   (fun x hx p hp=>by
    obtain⟨q,hq,rfl⟩:=List.mem_map.1 hp
    exact hd x (List.mem_cons_of_mem _ hx) q (List.mem_cons_of_mem _ hq))
   (fun x hx2=>by
    have hx1:=hs x (List.mem_cons_of_mem _ hx2)
    rw[sumL_cons]at hx1
    have hdx:∀p∈l,x^^^p.1≠0#8:=fun p hp=>xor_ne (hd x (List.mem_cons_of_mem _ hx2) p (List.mem_cons_of_mem _ hp))
    have hxx:x^^^x0≠0#8:=xor_ne fun e=>hxn.1 (e▸hx2)
    -- both rows, times what makes the first term v0
    have r1:gmul (gmul v0 (ginv (x^^^y0))^^^sumL l fun p=>gmul p.2 (ginv (x^^^p.1))) (x^^^y0)=0#8:=by rw[hx1,gmul_zero_l]
    have r0:gmul (gmul v0 (ginv (x0^^^y0))^^^sumL l fun p=>gmul p.2 (ginv (x0^^^p.1))) (x0^^^y0)=0#8:=by rw[h0,gmul_zero_l]
    rw[gmul_xor,gmul_assoc,gmul_comm (ginv _),gmul_inv (hd1 x (List.mem_cons_of_mem _ hx2)),gmul_one,←sumL_mul]at r1
    rw[gmul_xor,gmul_assoc,gmul_comm (ginv _),gmul_inv (hd1 x0 (List.mem_cons_self ..)),gmul_one,←sumL_mul]at r0
    have r2:sumL l (fun p=>gmul (gmul p.2 (ginv (x^^^p.1))) (x^^^y0)^^^gmul (gmul p.2 (ginv (x0^^^p.1))) (x0^^^y0))=0#8:=by
     rw[sumL_xor,←xor_zero_iff r1,←xor_zero_iff r0,BitVec.xor_self]
    have r3:sumL l (fun p=>gmul (gmul (gmul p.2 (gmul (p.1^^^y0) (ginv (x0^^^p.1)))) (ginv (x^^^p.1))) (x^^^x0))=0#8:=by
     rw[←r2]
     refine sumL_congr fun p hp=>?_
     have:=cauchy_step (y0:=y0) (hdx p hp) (hd0 p hp)
     rw[gmul_assoc p.2 (ginv (x^^^p.1)),gmul_assoc p.2 (ginv (x0^^^p.1)),←gmul_xor_r,gmul_comm (ginv (x^^^p.1)) (x^^^y0),gmul_comm (ginv (x0^^^p.1)) (x0^^^y0),this]
     simp only[gmul_assoc]
    rw[sumL_mul]at r3
    have r4:=gmul_zero_iff r3 hxx
    rw[←r4]
    unfold sumL
    rw[List.foldr_map])
  have hv:∀p∈l,p.2=0#8:=fun p hp=>by
   have:=ih _ (List.mem_map_of_mem (f:=fun p: BitVec 8 × BitVec 8 => (p.1, gmul p.2 (gmul (p.1 ^^^ y0) (ginv (x0 ^^^ p.1))))) hp)
   exact gmul_zero_iff this (gmul_ne (hyy p hp) (ginv_ne _))
  intro p hp
  rcases List.mem_cons.1 hp with rfl | hp
  · rw[sumL_congr (g := fun _ => 0#8) fun p hp => by rw[hv p hp, gmul_zero_l]]at h0
    rw[sumL_zero, BitVec.xor_zero]at h0
    exact gmul_zero_iff h0 (ginv_ne _)
  · exact hv p hp
abbrev byteAt(r:List (BitVec 8))(j:Nat):BitVec 8:=(r[j]?).getD 0#8
theorem entAt_def(L:List (List (BitVec 8)))(i j:Nat):entAt L i j=byteAt (rowAt L i) j:=rfl
theorem byteAt_eq{r:List (BitVec 8)}{j:Nat}(h:j<r.length):byteAt r j=r[j]:=by
 unfold byteAt
 rw[List.getElem?_eq_getElem h]
 rfl
theorem byteAt_ext{r s:List (BitVec 8)}(hl:r.length=s.length)(h:∀j<r.length,byteAt r j=byteAt s j):r=s:=by
 apply List.ext_getElem hl
 intro j h1 h2
 rw[←byteAt_eq h1,←byteAt_eq h2]
 exact h j h1
theorem byteAt_mixL{xs ys:List (BitVec 8)}(c:BitVec 8)(j:Nat)(h:xs.length=ys.length):byteAt (mixL xs ys c) j=byteAt xs j^^^gmul (byteAt ys j) c:=by
 unfold byteAt mixL
 rw[List.getElem?_zipWith]
 rcases Nat.lt_or_ge j xs.length with hj|hj
 · rw[List.getElem?_eq_getElem hj, List.getElem?_eq_getElem (h▸hj)]
   rfl
 · rw[List.getElem?_eq_none hj, List.getElem?_eq_none (h▸hj)]
   show 0#8=0#8^^^gmul 0#8 c
   rw[gmul_zero_l]
   rfl
theorem byteAt_rep(n j:Nat):byteAt (List.replicate n 0#8) j=0#8:=by
 unfold byteAt
 rw[List.getElem?_replicate]
 split<;>rfl
theorem byteAt_scaleL(row:List (BitVec 8))(c:BitVec 8)(j:Nat):byteAt (scaleL row c) j=gmul (byteAt row j) c:=by
 unfold scaleL
 rw[byteAt_mixL c j List.length_replicate,byteAt_rep,BitVec.zero_xor]
theorem rowAt_set{L:List (List (BitVec 8))}{a i:Nat}{p:List (BitVec 8)}(hi:i<L.length):rowAt (L.set a p) i=if i=a then p else rowAt L i:=by
 rw[rowAt_eq (by rw[List.length_set];exact hi),List.getElem_set,rowAt_eq hi]
 by_cases h:a=i
 ·rw[if_pos h,if_pos h.symm]
 ·rw[if_neg h,if_neg (Ne.symm h)]
theorem rowAt_clTo{A L:List (List (BitVec 8))}{p:List (BitVec 8)}{at_ col m i:Nat}(hi:i<A.length):rowAt (clTo A L p at_ col m) i=if i<m∧i≠at_∧entAt L i col≠0#8 then mixL (rowAt A i) p (entAt L i col)else rowAt A i:=by
 rw[rowAt_eq (by rw[clTo_len];exact hi)]
 simp only[clTo,List.getElem_map,List.getElem_range]
theorem entAt_clear{A L:List (List (BitVec 8))}{p:List (BitVec 8)}{at_ col i j k:Nat}(hA:A.length=k)(hr:∀x∈A,x.length=k)(hp:p.length=k)(hi:i<k)(ha:rowAt A at_=p):
 entAt (clTo A L p at_ col k) i j=if i=at_ then byteAt p j else entAt A i j^^^gmul (byteAt p j) (entAt L i col):=by
 rw[entAt_def,rowAt_clTo (by omega)]
 by_cases h1:i=at_
 ·rw[if_neg (by omega),if_pos h1, h1, ha]
 · rw[if_neg h1]
   by_cases h2 : entAt L i col = 0#8
   · rw[if_neg (by simp[h2]), h2, gmul_zero_r, BitVec.xor_zero]
     rfl
   · rw[if_pos ⟨hi,h1,h2⟩,byteAt_mixL _ _ (by rw[rowAt_len hr (by omega),hp])]
     rfl
theorem entAt_clearL{L:List (List (BitVec 8))}{at_ col i j k:Nat}(hL:L.length=k)(hr:∀x∈L,x.length=k)(ha:at_<k)(hi:i<k):
 entAt (clearL L at_ col) i j=if i=at_ then gmul (entAt L at_ j) (ginv (entAt L at_ col))else entAt L i j^^^gmul (gmul (entAt L at_ j) (ginv (entAt L at_ col))) (entAt L i col):=by
 unfold clearL
 have hpl:(scaleL (rowAt L at_) (ginv (entAt L at_ col))).length=k:=by rw[scaleL_len,rowAt_len hr (by omega)]
 simp only[List.length_set,hL]
 rw[entAt_clear (by rw[List.length_set,hL]) (set_all hr hpl) hpl hi (by rw[rowAt_set (by omega),if_pos rfl]),byteAt_scaleL,←entAt_def]
 by_cases h:i=at_
 · rw[if_pos h, if_pos h]
 · rw[if_neg h, if_neg h,entAt_def (L.set _ _),entAt_def (L.set _ _),rowAt_set (by omega),if_neg h]
   rfl
theorem entAt_clearR{L R:List (List (BitVec 8))}{at_ col i j k:Nat}(hL:L.length=k)(hR:R.length=k)(hr:∀x∈R,x.length=k)(ha:at_<k)(hi:i<k):
 entAt (clearR L R at_ col) i j=if i=at_ then gmul (entAt R at_ j) (ginv (entAt L at_ col))else entAt R i j^^^gmul (gmul (entAt R at_ j) (ginv (entAt L at_ col))) (entAt L i col):=by
 unfold clearR
 have hpl:(scaleL (rowAt R at_) (ginv (entAt L at_ col))).length=k:=by rw[scaleL_len,rowAt_len hr (by omega)]
 simp only[hR]
 rw[entAt_clear (by rw[List.length_set,hR]) (set_all hr hpl) hpl hi (by rw[rowAt_set (by omega),if_pos rfl]),byteAt_scaleL,←entAt_def]
 by_cases h:i=at_
 ·rw[if_pos h,if_pos h]
 · rw[if_neg h, if_neg h, entAt_def (R.set _ _), rowAt_set (by omega),if_neg h,entAt_def (L.set _ _),rowAt_set (by omega),if_neg h]
   rfl
theorem rowAt_swapL{L:List (List (BitVec 8))}{a m i:Nat}(_ha:a<L.length)(_hm:m<L.length)(hi:i<L.length):rowAt (swapL L a m) i=rowAt L (swp a m i):=by
 unfold swapL swp
 rw[rowAt_set (by rw[List.length_set];exact hi),rowAt_set hi]
 by_cases h1:i=m
 · rw[if_pos h1]
   by_cases h2 : i = a
   · rw[if_pos h2]
     congr 1
     omega
   · rw[if_neg h2, if_pos h1]
 · rw[if_neg h1]
   by_cases h2:i=a
   ·rw[if_pos h2,if_pos h2]
   ·rw[if_neg h2,if_neg h2,if_neg h1]
theorem entAt_ident{k i j:Nat}(hi:i<k)(hj:j<k):entAt (ident k) i j=if j=i then 1#8 else 0#8:=by
 rw[entAt_def,rowAt_eq (by rw[ident_len];exact hi)]
 simp only[ident,List.getElem_map,List.getElem_range,idRow,byteAt]
 rw[List.getElem?_set,List.length_replicate,List.getElem?_replicate]
 by_cases h:i= j
 · rw[if_pos h,if_pos (by omega),if_pos h.symm]
   rfl
 · rw[if_neg h, if_pos hj, if_neg (Ne.symm h)]
   rfl
structure RG(k:Nat)(A:List (List (BitVec 8)))(s:Nat×List (List (BitVec 8))×List (List (BitVec 8)))(m:Nat):Prop where
 dn:s.1=m
 l1:s.2.1.length=k
 l2:s.2.2.length=k
 c1:∀x∈s.2.1,x.length=k
 c2:∀x∈s.2.2,x.length=k
 gj:GJ k (entAt A) (entAt s.2.1) (entAt s.2.2) m
def Reg(k:Nat)(A:Mx):Prop:=∀v:Nat→BitVec 8,(∀i<k,dot k (A i) v=0#8)→∀i<k,v i=0#8
theorem redTo_rg{k:Nat}{A:List (List (BitVec 8))}(hA:A.length=k)(hr:∀x∈A,x.length=k)(hk:Reg k (entAt A)):∀m,m≤k→RG k A (redTo A (ident k) m) m
 |0,_=>⟨rfl,hA,ident_len k,hr,ident_all k,GJ.start fun i hi j hj=>entAt_ident hi hj⟩
 |m+1,hm=>by
  have ih:=redTo_rg hA hr hk m (by omega)
  rw[redTo_succ]
  generalize redTo A (ident k) m=s at ih
  obtain⟨dn,L,R⟩:=s
  obtain⟨h0,l1,l2,c1,c2,gj⟩:=ih
  simp only at h0 l1 l2 c1 c2 gj
  subst h0
  have hf:∃i,firstP L dn dn=some i:=by
   cases hf:firstP L dn dn with
   |some i=>exact⟨i,rfl⟩
   |none=>
    obtain⟨i,h1,h2,h3⟩:=gj.pivot (by omega) hk
    unfold firstP at hf
    rw[List.find?_eq_none]at hf
    have:=hf i (List.mem_range.2 (by omega))
    exact absurd (decide_eq_true ⟨h1,h3⟩) this
  obtain⟨i,hf⟩:=hf
  rw[redStep_hit hf]
  have hi:i<L.length∧dn≤i∧entAt L i dn≠0#8:=by
   unfold firstP at hf
   have h1:=List.mem_range.1 (List.mem_of_find?_eq_some hf)
   have h2:=List.find?_some hf
   have h3:=of_decide_eq_true h2
   exact⟨h1,h3.1,h3.2⟩
  have sL:(swapL L i dn).length=k:=by rw[swapL_len];exact l1
  have sR:(swapL R i dn).length=k:=by rw[swapL_len];exact l2
  have sLa:=swapL_all c1 (i:=i) (j:=dn) (by omega) (by omega)
  have sRa:=swapL_all c2 (i:=i) (j:=dn) (by omega) (by omega)
  have eL:∀x<k,∀j,entAt (swapL L i dn) x j=entAt L (swp i dn x) j:=fun x hx j=>by rw[entAt_def,rowAt_swapL (by omega) (by omega) (by omega)];rfl
  have eR:∀x<k,∀j,entAt (swapL R i dn) x j=entAt R (swp i dn x) j:=fun x hx j=>by rw[entAt_def,rowAt_swapL (by omega) (by omega) (by omega)];rfl
  have g1:GJ k (entAt A) (entAt (swapL L i dn)) (entAt (swapL R i dn)) dn:=(gj.swap (a:=i) (by omega) hi.2.1).congr (fun x hx j _=>eL x hx j) (fun x hx j _=>eR x hx j) (by omega)
  have hne:entAt (swapL L i dn) dn dn≠0#8:=by rw[swapL_ent (by omega)];exact hi.2.2
  refine⟨rfl,by rw[clearL_len];exact sL,by rw[clearR_len];exact sR,clearL_all sLa (by omega),clearR_all sRa (by omega),?_⟩
  exact(g1.clear (by omega) hne).congr (fun x hx j _=>entAt_clearL sL sLa (by omega) hx) (fun x hx j _=>entAt_clearR sL sR sRa (by omega) hx) hm
theorem sumN_left(f:Nat→BitVec 8):∀n:Nat,sumN (n+1) f=f 0^^^sumN n (fun i=>f (i+1))
 |0=>by
  show 0#8^^^f 0=f 0^^^0#8
  rw[BitVec.zero_xor,BitVec.xor_zero]
 |n+1=>by
  rw[sumN,sumN_left f n,sumN,BitVec.xor_assoc]
theorem sumN_sumL(f:Nat→BitVec 8):∀n:Nat,sumN n f=sumL (List.range n) f
 |0=>rfl
 |n+1=>by
  have e:∀(l:List Nat)(x:BitVec 8),l.foldr (fun a s=>f a^^^s) x=sumL l f^^^x:=by
   intro l x
   induction l with
   |nil=>exact(BitVec.zero_xor).symm
   |cons a l ih=>rw[List.foldr_cons,ih,sumL_cons,BitVec.xor_assoc]
  rw[sumN,sumN_sumL f n,List.range_succ]
  conv=>rhs;unfold sumL
  rw[List.foldr_append]
  show _=(List.range n).foldr (fun a s=>f a^^^s) (f n^^^0#8)
  rw[BitVec.xor_zero,e]
theorem sumL_filter{α:Type}{f:α→BitVec 8}{q:α→Bool}:∀{l:List α},(∀x∈l,q x=false→f x=0#8)→sumL (l.filter q) f=sumL l f
 |[],_=>rfl
 |x::l,h=>by
  have ih:=sumL_filter (l:=l) fun y hy=>h y (List.mem_cons_of_mem _ hy)
  rw[List.filter_cons]
  by_cases hq:q x=true
  ·rw[if_pos hq,sumL_cons,sumL_cons,ih]
  ·rw[if_neg hq,sumL_cons,h x (List.mem_cons_self ..) (by simpa using hq),BitVec.zero_xor,ih]
theorem sumL_map{α β:Type}(g:α→β)(f:β→BitVec 8)(l:List α):sumL (l.map g) f=sumL l fun x=>f (g x):=by
 unfold sumL
 rw[List.foldr_map]
theorem filter_split{α:Type}(q:α→Bool):∀l:List α,(l.filter q).length+(l.filter fun x=>!q x).length=l.length
 |[]=>rfl
 |x::l=>by
  have ih:=filter_split q l
  rw[List.filter_cons,List.filter_cons]
  cases q x with
  |true=>
   rw[if_pos rfl,if_neg (by decide),List.length_cons,List.length_cons]
   omega
  |false=>
   rw[if_neg (by decide),if_pos (by decide),List.length_cons,List.length_cons]
   omega
theorem ofNat_inj{i j:Nat}(hi:i<256)(hj:j<256)(h:BitVec.ofNat 8 i=BitVec.ofNat 8 j):i=j:=by
 have:=congrArg BitVec.toNat h
 rw[BitVec.toNat_ofNat,BitVec.toNat_ofNat,Nat.mod_eq_of_lt hi,Nat.mod_eq_of_lt hj]at this
 exact this
theorem nodup_ofNat{l:List Nat}(h:l.Nodup)(hl:∀x∈l,x<256):(l.map (BitVec.ofNat 8)).Nodup:=by
 rw[List.Nodup,List.pairwise_map]
 exact h.imp_of_mem fun ha hb hab e=>hab (ofNat_inj (hl _ ha) (hl _ hb) e)
theorem genE_data{k i j:Nat}(hi:i<k):genE k i j=if j=i then 1#8 else 0#8:=by
 unfold genE
 rw[if_neg (by omega)]
 by_cases h:i=j
 ·rw[if_pos h,if_pos h.symm]
 ·rw[if_neg h,if_neg (Ne.symm h)]
theorem genE_par{k i j:Nat}(hi:k≤i):genE k i j=ginv (BitVec.ofNat 8 i^^^BitVec.ofNat 8 j):=if_pos hi
theorem gen_reg{k n:Nat}{is:List Nat}(hl:is.length=k)(hd:is.Nodup)(hr:∀i∈is,i<n)(hn:n≤255)(hkn:k≤n){A:Mx}(hA:∀i(h:i<is.length),∀j<k,A i j=genE k is[i] j):Reg k A:=by
 intro v h0
 have hrow:∀x∈is,dot k (genE k x) v=0#8:=fun x hx=>by
  obtain⟨i,hi,rfl⟩:=List.mem_iff_getElem.1 hx
  rw[←h0 i (by omega)]
  exact dot_congr (fun j hj=>(hA i hi j hj).symm) fun _ _=>rfl
 have hdat:∀x∈is,x<k→v x=0#8:=fun x hx hxk=>by
  rw[←hrow x hx,dot_unit hxk fun j _=>genE_data hxk]
 let U:=(List.range k).filter fun j=>decide (j∉is)
 let V:=(List.range k).filter fun j=>decide (j∈is)
 have hUV:U.length+V.length=k:=by
  have:=filter_split (fun j=>decide (j∉is)) (List.range k)
  rw[List.length_range]at this
  refine Eq.trans ?_ this
  congr 1
  exact congrArg List.length (List.filter_congr fun x _=>by simp)
 have hperm:V.Perm (is.filter fun x=>decide (x<k)):=by
  refine(List.perm_ext_iff_of_nodup (List.filter_sublist.nodup List.nodup_range) (List.filter_sublist.nodup hd)).2 fun x=>?_
  simp only[List.mem_filter,List.mem_range,decide_eq_true_eq]
  exact⟨fun h=>⟨h.2,h.1⟩,fun h=>⟨h.2,h.1⟩⟩
 have hpl:=hperm.length_eq
 have hsplit:=filter_split (fun x=>decide (x<k)) is
 have hz:=cauchy (l:=U.map fun j=>(BitVec.ofNat 8 j,v j)) (xs:=(is.filter fun x=>!decide (x<k)).map (BitVec.ofNat 8)) (by rw[List.length_map,List.length_map];omega)
  (nodup_ofNat (List.filter_sublist.nodup hd) fun x hx=>by have:=hr x (List.mem_filter.1 hx).1;omega)
  (by
   rw[List.map_map]
   exact nodup_ofNat (List.filter_sublist.nodup List.nodup_range) fun x hx=>by have:=List.mem_range.1 (List.mem_filter.1 hx).1;omega)
  (fun x hx p hp e=>by
   obtain⟨i,hi,rfl⟩:=List.mem_map.1 hx
   obtain⟨j,hj,rfl⟩:=List.mem_map.1 hp
   have h1:=List.mem_filter.1 hi
   have h2:=List.mem_range.1 (List.mem_filter.1 hj).1
   have h3:=hr i h1.1
   have h4:¬i<k:=by simpa using h1.2
   have:=ofNat_inj (by omega) (by omega) e
   omega)
  (fun x hx=>by
   obtain⟨i,hi,rfl⟩:=List.mem_map.1 hx
   have h1:=List.mem_filter.1 hi
   have h4:¬i<k:=by simpa using h1.2
   rw[sumL_map,←hrow i h1.1]
   unfold dot
   rw[sumN_sumL,←sumL_filter (q:=fun j => decide (j ∉ is)) (l := List.range k)]
   · exact sumL_congr fun j _ => by rw[genE_par (by omega)]
   · intro j hj hq
     have hji : j ∈ is :=by simpa using hq
     rw[hdat j hji (List.mem_range.1 hj),gmul_zero_l])
 intro j hj
 by_cases hji:j∈is
 ·exact hdat j hji hj
 ·exact hz (BitVec.ofNat 8 j,v j) (List.mem_map_of_mem (f:=fun j=>(BitVec.ofNat 8 j,v j)) (List.mem_filter.2 ⟨List.mem_range.2 hj,by simpa using hji⟩))
theorem byteAt_mixAll{b l:Nat}:∀{row:List (BitVec 8)}{ds:List (List (BitVec 8))}{acc:List (BitVec 8)},row.length≤ds.length→acc.length=l→(∀d∈ds,d.length=l)→
 byteAt (mixAll row ds acc) b=byteAt acc b^^^sumN row.length fun j=>gmul (byteAt (rowAt ds j) b) (byteAt row j)
 |[],_,acc,_,_,_=>by
  rw[mixAll_nil]
  show _=byteAt acc b^^^0#8
  rw[BitVec.xor_zero]
 |c::row,[],_,h,_,_=>by simp at h
 |c::row,d::ds,acc,h,ha,hd=>by
  have hdl:=hd d (List.mem_cons_self ..)
  have hm:(mixL acc d c).length=l:=by rw[mixL_len (by omega),ha]
  have ih:=byteAt_mixAll (b:=b) (row:=row) (ds:=ds) (acc:=mixL acc d c) (by simpa using h) hm fun e he=>hd e (List.mem_cons_of_mem _ he)
  have e1:mixAll (c::row) (d::ds) acc=mixAll row ds (mixL acc d c):=by simp only[mixAll]
  rw[e1,ih,List.length_cons,sumN_left,byteAt_mixL _ _ (by omega),BitVec.xor_assoc]
  rfl
theorem enc_row{xs:List (BitVec 8)}{k n i:Nat}(hkn:k≤n)(hi:i<n):rowAt (enc xs k n) i=mixAll (genRow k i) (dataOf xs (lenOf xs.length k) k) (List.replicate (lenOf xs.length k) 0#8):=by
 rcases Nat.lt_or_ge i k with h | h
 · have e0 :rowAt (enc xs k n) i=chunk xs (lenOf xs.length k) i:=by unfold rowAt;rw[enc_get1 h];rfl
   rw[e0]
   have hml:(mixAll (genRow k i) (dataOf xs (lenOf xs.length k) k) (List.replicate (lenOf xs.length k) 0#8)).length=lenOf xs.length k:=mixAll_len List.length_replicate (dataOf_all _ _ _)
   refine byteAt_ext (by rw[chunk_len,hml]) fun b _=>?_
   rw[byteAt_mixAll (l:=lenOf xs.length k) (by rw[genRow_len,dataOf_len];exact Nat.le_refl _) List.length_replicate (dataOf_all _ _ _),byteAt_rep,BitVec.zero_xor,genRow_len]
   have hd:=dot_unit (r:=fun j=>byteAt (genRow k i) j) (v:=fun j=>byteAt (rowAt (dataOf xs (lenOf xs.length k) k) j) b) h fun j hj=>by
    rw[←genE_data (j:=j) h,byteAt_eq (by rw[genRow_len]; exact hj)]
    simp[genRow]
   refine Eq.trans ?_ hd.symm
   rw[rowAt_eq (by rw[dataOf_len]; exact h)]
   simp[dataOf]
 · obtain⟨j, rfl⟩: ∃j,i=k+j:=⟨i-k,by omega⟩
   unfold rowAt
   rw[enc_get2 (by omega)]
   rfl
theorem byteAt_enc{xs:List (BitVec 8)}{k n i b:Nat}(hkn:k≤n)(hi:i<n):byteAt (rowAt (enc xs k n) i) b=dot k (genE k i) fun j=>byteAt (chunk xs (lenOf xs.length k) j) b:=by
 rw[enc_row hkn hi,byteAt_mixAll (l:=lenOf xs.length k) (by rw[genRow_len,dataOf_len];exact Nat.le_refl _) List.length_replicate (dataOf_all _ _ _),byteAt_rep,BitVec.zero_xor,genRow_len]
 refine sumN_congr fun j hj=>?_
 rw[rowAt_eq (by rw[dataOf_len];exact hj),byteAt_eq (r:=genRow k i) (by rw[genRow_len];exact hj)]
 simp[dataOf,genRow]
structure Of(xs:List (BitVec 8))(k n:Nat)(ys:List Pc):Prop where
 nd:(ys.map Pc.index).Nodup
 rng:∀p∈ys,0≤p.index∧p.index<(n:Int)
 dat:∀p∈ys,p.data=rowAt (enc xs k n) p.index.toNat
theorem Of.perm{xs:List (BitVec 8)}{k n:Nat}{ys ps:List Pc}(h:Of xs k n ps)(hp:ys.Perm ps):Of xs k n ys:=
 ⟨(hp.map _).nodup_iff.2 h.nd,fun p hq=>h.rng p (hp.mem_iff.1 hq),fun p hq=>h.dat p (hp.mem_iff.1 hq)⟩
theorem Of.take{xs:List (BitVec 8)}{k n:Nat}{ys:List Pc}(h:Of xs k n ys)(m:Nat):Of xs k n (ys.take m):=
 ⟨((List.take_sublist _ _).map _).nodup h.nd,fun p hq=>h.rng p (List.mem_of_mem_take hq),fun p hq=>h.dat p (List.mem_of_mem_take hq)⟩
theorem Of.ok{xs:List (BitVec 8)}{k n:Nat}{ys:List Pc}(h:Of xs k n ys)(hk:0<k)(hkn:k≤n):PsOk ys n (lenOf xs.length k)where
 nd:=h.nd
 rng:=h.rng
 len p hp:=by
  have hr:=h.rng p hp
  rw[h.dat p hp,rowAt_eq (by rw[enc_len hkn];omega)]
  have e:∀d∈enc xs k n,d.length=lenOf xs.length k:=by
   intro d hd
   unfold enc at hd
   rcases List.mem_append.1 hd with h| h
   · exact dataOf_all _ _ _ d h
   · obtain⟨j,_,rfl⟩:=List.mem_map.1 h
     exact mixAll_len List.length_replicate (dataOf_all _ _ _)
  exact e _ (List.getElem_mem _)
theorem entAt_sub{ys:List Pc}{k n i j:Nat}(hk:k≤ys.length)(hi:i<k)(hj:j<k)(hr:∀p∈ys,0≤p.index∧p.index<(n:Int)):entAt (subM ys k n) i j=genE k (ys[i]'(by omega)).index.toNat j:=by
 have h1:=hr (ys[i]'(by omega)) (List.getElem_mem _)
 have hsl:=subM_len (n:=n) hk
 rw[entAt_def,rowAt_eq (by omega)]
 simp only[subM,pickL,List.getElem_map,List.getElem_take]
 rw[rowAt_eq (by rw[gen_len];omega)]
 simp only[gen,List.getElem_map,List.getElem_range]
 rw[byteAt_eq (by rw[genRow_len];exact hj)]
 simp[genRow]
theorem sub_reg{ys:List Pc}{k n:Nat}(hk:k≤ys.length)(hkn:k≤n)(hn:n≤255)(hnd:(ys.map Pc.index).Nodup)(hr:∀p∈ys,0≤p.index∧p.index<(n:Int)):Reg k (entAt (subM ys k n)):=by
 refine gen_reg (is:=(ys.take k).map fun p=>p.index.toNat) (n:=n) (by rw[List.length_map,List.length_take];omega) ?_ ?_ hn hkn fun i hi j hj =>?_
 · have h1 : ((ys.take k).map Pc.index).Nodup:=((List.take_sublist _ _).map _).nodup hnd
   rw[List.Nodup,List.pairwise_map]at h1⊢
   refine h1.imp_of_mem fun{a b}ha hb hab=>?_
   have:=hr a (List.mem_of_mem_take ha)
   have:= hr b (List.mem_of_mem_take hb)
   omega
 · intro i hi
   obtain⟨p, hp, rfl⟩:= List.mem_map.1 hi
   have := hr p (List.mem_of_mem_take hp)
   omega
 · rw[List.length_map, List.length_take]at hi
   rw[entAt_sub hk (by omega) hj hr]
   simp
theorem sub_all{ys:List Pc}{k n:Nat}(hr:∀p∈ys,0≤p.index∧p.index<(n:Int)):∀x∈subM ys k n,x.length=k:=
 pickL_all (gen_all k n) fun x hx=>by
  obtain⟨p,hp,rfl⟩:=List.mem_map.1 hx
  rw[gen_len]
  exact hr p (List.mem_of_mem_take hp)
theorem sub_rg{ys:List Pc}{k n:Nat}(hk:k≤ys.length)(hkn:k≤n)(hn:n≤255)(hnd:(ys.map Pc.index).Nodup)(hr:∀p∈ys,0≤p.index∧p.index<(n:Int)):RG k (subM ys k n) (redTo (subM ys k n) (ident k) k) k:=
 redTo_rg (subM_len hk) (sub_all hr) (sub_reg hk hkn hn hnd hr) k (Nat.le_refl _)
theorem any_reg{ps:List Pc}{k n l:Nat}(hk:k≤ps.length)(hkn:k≤n)(hn:n≤255)(hok:PsOk ps n l):∀ys:List Pc,ys.Perm ps→ys.Pairwise (fun x y=>x.index≤y.index)→(redTo (subM ys k n) (ident k) k).1=k:=fun ys hy _=>
 (sub_rg (by rw[hy.length_eq];exact hk) hkn hn ((hy.map _).nodup_iff.2 hok.nd) fun p hp=>hok.rng p (hy.mem_iff.1 hp)).dn
theorem datL_of{xs:List (BitVec 8)}{ys:List Pc}{k n:Nat}(h:Of xs k n ys)(h0:0<k)(hk:k≤ys.length)(hkn:k≤n)(hn:n≤255):datL ys k n (lenOf xs.length k)=dataOf xs (lenOf xs.length k) k:=by
 have rg:=sub_rg hk hkn hn h.nd h.rng
 have hok:=h.ok h0 hkn
 have hil:=invM_len (n:=n) hk
 have hia:=invM_all (n:=n) hk
 apply List.ext_getElem (by rw[datL_len hk,dataOf_len])
 intro i h1 h2
 rw[datL_len hk]at h1
 have hdl:((ys.take k).map Pc.data).length=k:=by rw[List.length_map,List.length_take];omega
 have hda:∀d∈(ys.take k).map Pc.data,d.length=lenOf xs.length k:=fun d hd=>by
  obtain⟨p,hp,rfl⟩:=List.mem_map.1 hd
  exact hok.len p (List.mem_of_mem_take hp)
 have hrl:((invM ys k n)[i]'(by omega)).length=k:=hia _ (List.getElem_mem _)
 simp only[datL,dataOf,List.getElem_map,List.getElem_range]
 have hml:(mixAll ((invM ys k n)[i]'(by omega)) ((ys.take k).map Pc.data) (List.replicate (lenOf xs.length k) 0#8)).length=lenOf xs.length k:=mixAll_len List.length_replicate hda
 refine byteAt_ext (by rw[hml,chunk_len]) fun b _=>?_
 rw[byteAt_mixAll (l:=lenOf xs.length k) (by rw[hrl,hdl];exact Nat.le_refl _) List.length_replicate hda,byteAt_rep,BitVec.zero_xor,hrl]
 have hs:=rg.gj.solve (d:=fun j=>byteAt (chunk xs (lenOf xs.length k) j) b) (p:=fun j=> byteAt (rowAt ((ys.take k).map Pc.data) j) b) (fun j hj =>?_) h1
 · refine Eq.trans (sumN_congr fun j hj =>?_) hs
   show _ = gmul _ (entAt (invM ys k n) i j)
   rw[entAt_def, rowAt_eq (L := invM ys k n) (by omega)]
 · have hj2 : j < ((ys.take k).map Pc.data).length := by omega
   have hr:=h.rng (ys[j]'(by omega)) (List.getElem_mem _)
   rw[rowAt_eq hj2]
   simp only[List.getElem_map,List.getElem_take]
   rw[h.dat _ (List.getElem_mem _),byteAt_enc hkn (by omega)]
   exact dot_congr (fun c hc=>entAt_sub hk hj hc h.rng) fun _ _=>rfl
theorem flat_data{xs:List (BitVec 8)}{k:Nat}(h0:0<k):(dataOf xs (lenOf xs.length k) k).flatten.take xs.length=xs:=by
 rw[dataOf,cat_plain,List.take_of_length_le (lenOf_mul h0),List.take_left]
theorem objL_of{xs:List (BitVec 8)}{ys:List Pc}{k n:Nat}(h:Of xs k n ys)(h0:0<k)(hk:k≤ys.length)(hkn:k≤n)(hn:n≤255):objL ys k n xs.length=xs:=by
 unfold objL
 rw[datL_of h h0 hk hkn hn,flat_data h0]
end Go.Proofs.YtcafjhnjhhicdaaGreatDoor
