import Derived.Test.YtdnibpclkhenmaaGreatDoorSBxA
import Derived.Test.YtdnibpclkhenmaaGreatDoorSG7
import Derived.Test.YtdnibpclkhenmaaGreatDoorSBxB
namespace Go.Proofs.YtdnibpclkhenmaaGreatDoor
open Go.BX
def bit1(c:BitVec 32):BitVec 32:=(c>>>1)^^^(2197175160#32&&&(-(c&&&1#32)))
def bits:Nat→BitVec 32→BitVec 32
 |0,c=>c
 |n+1,c=>bit1 (bits n c)
def crcStep(c:BitVec 32)(x:BitVec 8):BitVec 32:=bits 8 (c^^^x.setWidth 32)
def crcF(xs:List (BitVec 8)):BitVec 32:= ~~~(xs.foldl crcStep 4294967295#32)
theorem and_one(c:BitVec 32):c&&&1#32=if c.getLsbD 0 then 1#32 else 0#32:=by
 apply BitVec.eq_of_toNat_eq
 have h:(c&&&1#32).toNat=c.toNat%2:=by
  rw[BitVec.toNat_and]
  exact Nat.and_one_is_mod _
 rw[h,BitVec.getLsbD,Nat.testBit_zero]
 by_cases h1:c.toNat%2=1
 ·simp[h1]
 · have :c.toNat%2=0:=by omega
   simp[this]
theorem bit1_eq(c:BitVec 32):bit1 c=(c>>>1)^^^(if c.getLsbD 0 then 2197175160#32 else 0#32):=by
 unfold bit1
 rw[and_one]
 congr 1
 split<;>decide
theorem bit1_xor(a b:BitVec 32):bit1 (a^^^b)=bit1 a^^^bit1 b:=by
 rw[bit1_eq,bit1_eq,bit1_eq,BitVec.getLsbD_xor,BitVec.ushiftRight_xor_distrib]
 generalize a>>>1=x
 generalize b>>>1=y
 cases a.getLsbD 0<;>cases b.getLsbD 0
 ·simp
 · simp[BitVec.xor_assoc]
 · simp only[Bool.xor_false, if_true,if_false,Bool.false_eq_true]
   rw[BitVec.xor_assoc,BitVec.xor_assoc, BitVec.xor_zero, BitVec.xor_comm y]
 · simp only[Bool.xor_self,if_true,if_false,Bool.false_eq_true,BitVec.xor_zero]
   rw[BitVec.xor_assoc,BitVec.xor_comm y,←BitVec.xor_assoc (2197175160#32),BitVec.xor_self,BitVec.zero_xor]
theorem bits_xor:∀(n:Nat)(a b:BitVec 32),bits n (a^^^b)=bits n a^^^bits n b
 |0,_,_=>rfl
 |n+1,a,b=>by
  show bit1 (bits n (a^^^b))=bit1 (bits n a)^^^bit1 (bits n b)
  rw[bits_xor n,bit1_xor]
theorem bits_high:∀(n k:Nat)(c:BitVec 32),c.toNat%2^(n+k)=0→bits n c=c>>>n∧(c>>>n).toNat%2^k=0
 |0,k,c,h=>by
  rw[Nat.zero_add]at h
  exact⟨by simp[bits],by simpa using h⟩
 |n+1,k,c,h=>by
  obtain⟨h1,h2⟩:=bits_high n (k+1) c (by rw[show n+(k+1)=n+1+k by omega];exact h)
  have h3:bits (n+1) c=c>>>(n+1):=by
   show bit1 (bits n c)=_
   rw[h1,bit1_eq]
   have a:(c>>>n).getLsbD 0=false:=by
    rw[BitVec.getLsbD,Nat.testBit_zero]
    have d:(c>>>n).toNat%2=0:=by
     rw[Nat.pow_succ]at h2
     have:=Nat.mod_mul_left_mod (c>>>n).toNat (2^k) 2
     rw[h2]at this
     simpa using this.symm
    exact decide_eq_false (by omega)
   rw[a]
   simp[BitVec.shiftRight_add]
  refine⟨h3,?_⟩
  rw[BitVec.shiftRight_add,BitVec.toNat_ushiftRight,Nat.shiftRight_eq_div_pow]
  rw[Nat.pow_succ]at h2
  have b:(c>>>n).toNat=(c>>>n).toNat/(2^k*2)*(2^k*2):=by
   have:=Nat.div_add_mod (c>>>n).toNat (2^k*2)
   rw[Nat.mul_comm]at this
   omega
  rw[b,Nat.pow_one,←Nat.mul_assoc,Nat.mul_div_cancel _ (by decide)]
  exact Nat.mul_mod_left _ _
theorem crcStep_tab(c:BitVec 32)(x:BitVec 8):crcStep c x=(c>>>8)^^^bits 8 (((c.setWidth 8)^^^x).setWidth 32):=by
 unfold crcStep
 have e:c^^^x.setWidth 32=(c&&&4294967040#32)^^^(((c.setWidth 8)^^^x).setWidth 32):=by
  rw[BitVec.setWidth_xor,←BitVec.xor_assoc]
  congr 1
  apply BitVec.eq_of_getLsbD_eq
  intro i hi
  simp only[BitVec.getLsbD_xor,BitVec.getLsbD_and,BitVec.getLsbD_setWidth]
  by_cases h8:i< 8
  · have : (4294967040#32).getLsbD i = false := by
     have :∀i<8,(4294967040#32).getLsbD i=false:=by decide
     exact this i h8
    rw[this]
    cases c.getLsbD i <;> cases x.getLsbD i <;> simp[h8, hi]
  · have : (4294967040#32).getLsbD i =true:=by
     have:∀i<32,8≤i→(4294967040#32).getLsbD i=true:=by decide
     exact this i hi (by omega)
    rw[this]
    cases c.getLsbD i<;>cases x.getLsbD i<;>simp[h8]
 rw[e,bits_xor]
 congr 1
 have b:(c&&&4294967040#32).toNat%2^(8+0)=0:=by
  have d:(c&&&4294967040#32).setWidth 8=0#8:=by
   apply BitVec.eq_of_getLsbD_eq
   intro i hi
   have:∀i<8,(4294967040#32).getLsbD i=false:=by decide
   simp[this i hi]
  have a:=congrArg BitVec.toNat d
  rw[BitVec.toNat_setWidth]at a
  simpa using a
 rw[(bits_high 8 0 _ b).1]
 apply BitVec.eq_of_getLsbD_eq
 intro i hi
 simp only[BitVec.getLsbD_ushiftRight,BitVec.getLsbD_and]
 by_cases h24: 8 + i < 32
 · have : ∀ i<24,(4294967040#32).getLsbD (8+i)=true:=by decide
   simp[this i (by omega)]
 · have f : c.getLsbD (8 + i) = false := BitVec.getLsbD_of_ge _ _ (by omega)
   simp[f]
theorem fold_take{xs:List (BitVec 8)}{i:Nat}{c:BitVec 32}(h:i<xs.length):(xs.take (i+1)).foldl crcStep c=crcStep ((xs.take i).foldl crcStep c) xs[i]:=by
 rw[List.take_succ_eq_append_getElem h,List.foldl_append];rfl
def tabTo(m:Nat):List (BitVec 32):=(List.range 256).map fun k=>if k<m then bits 8 (BitVec.ofNat 32 k)else 0#32
theorem tabTo_len(m:Nat):(tabTo m).length=256:=by simp[tabTo]
theorem tabTo_zero:List.replicate 256 0#32=tabTo 0:=by
 apply List.ext_getElem (by rw[List.length_replicate,tabTo_len])
 intro i _ _
 simp only[tabTo,List.getElem_replicate,List.getElem_map,List.getElem_range]
 rw[if_neg (by omega)]
theorem tabTo_set{i:Nat}(_h:i<256):(tabTo i).set i (bits 8 (BitVec.ofNat 32 i))=tabTo (i+1):=by
 apply List.ext_getElem (by rw[List.length_set,tabTo_len,tabTo_len])
 intro j _ _
 simp only[tabTo,List.getElem_set,List.getElem_map,List.getElem_range]
 by_cases hj:i=j
 ·subst hj;rw[if_pos rfl,if_pos (by omega)]
 · rw[if_neg hj]
   by_cases h3 :j<i
   ·rw[if_pos h3,if_pos (by omega)]
   ·rw[if_neg h3,if_neg (by omega)]
theorem tabTo_get{x:BitVec 8}(hk:x.toNat<(tabTo 256).length):(tabTo 256)[x.toNat]=bits 8 (x.setWidth 32):=by
 have:=x.isLt
 simp only[tabTo,List.getElem_map,List.getElem_range]
 rw[if_pos (by omega)]
 congr 1
 apply BitVec.eq_of_toNat_eq
 rw[BitVec.toNat_ofNat,BitVec.toNat_setWidth]
theorem table_spec{S:Nat→Prop}{w:World}  :
 Calls Tryz.prog 144 #[] w (Ret fun v w'=>Ext w w'∧∃b:Nat,v=.P b 0∧Hp w S [] [] [⟨Shape.bv .u32 32,310,.slice (some ⟨b,0,none⟩) 256 256,tabTo 256⟩] [] w'):=by
 refine uS1 Tryz.func144 ?_
 have H:=Hp.startF (w:=w) (S:=S) (G:=[]) .nil
 refine uR 3 [.c [1,0],.c [2]] ?_
 refine qG (sq 0 3) ?_
 refine uP 1 ?_
 refine uC (Array.replicate 256 (.int .u32 0)) 310 H ?_
 intro a _ H
 have H:=H.toOwnN (sh:=Shape.bv .u32 32) (x0:=0#32) rfl (by simp[maxLen]) 256 (Nat.le_refl _) (fun _ _=>rfl)
 have H:Hp w S [] [] [⟨Shape.bv .u32 32,310,.slice (some ⟨a,0,none⟩) 256 256,(List.replicate 256 0#32)⟩] [] _:=H
 refine uF 1 ?_
 refine uR 4 [.c [2,0,1,0],.b 0,.c [3]] ?_
 have H:=H.reW tabTo_zero
 refine uL (α:=Nat) (g:=144) (p:=[2,0,1,0,0]) (fun i=>[(1,.P a 0),(6,.I i)]) (fun i w'=>Hp w S [] [] [⟨Shape.bv .u32 32,310,.slice (some ⟨a,0,none⟩) 256 256,tabTo i⟩] [] w'∧i≤256) (fun i=>256-i) 0 ⟨H,by omega⟩ ?_
 rintro i _⟨H,_⟩h
 refine uR 3 [.c [2,0,1,0,0,1,0],.c [2,0,1,0,0,2],.l [2,0,1,0,0],.b 0,.c [3]] ?_
 refine qD (((i:Int):Int)<256) (fun u=>?_) (fun u=>?_)
 ·
  refine uR 6 [.c [2,0,1,0,0,2,0,0,1,0],.c [2,0,1,0,0,2,0,0,2],.b 1,.c [2,0,1,0,0,3],.l [2,0,1,0,0],.b 0,.c [3]] ?_
  refine qG (sq 0 3) ?_
  refine uP 1 ?_
  refine RW.pv (κ:=.seq) (d:=some 10) (r:=(sq 2 3)) (v:=.int .u32 (IntKind.u32.wrap ((i:Int)))) (v':=.int .u32 (((BitVec.ofNat 32 i).toNat:Nat):Int)) (by as_aux_lemma=>kernel_rfl) ((wrap_bv32 _).trans (by rw[bv_nat])) ?_
  refine uF 1 ?_
  refine uR 4 [.c [2,0,1,0,0,2,0,0,2,0,1,0],.b 2,.c [2,0,1,0,0,2,0,0,3],.b 1,.c [2,0,1,0,0,3],.l [2,0,1,0,0],.b 0,.c [3]] ?_
  refine uL (α:=Nat×BitVec 32) (g:=144) (p:=[2,0,1,0,0,2,0,0,2,0,1,0,0]) (fun(j,d)=>[(1,.P a 0),(2,.I i),(3,.int .u32 ((d.toNat:Nat):Int)),(6,.I i),(11,.I j)]) (fun(j,d)w'=>Hp w S [] [] [⟨Shape.bv .u32 32,310,.slice (some ⟨a,0,none⟩) 256 256,tabTo i⟩] [] w'∧j≤8∧d=bits j (BitVec.ofNat 32 i)) (fun(j,d)=>8-j) (0,BitVec.ofNat 32 i) ⟨H,by omega,rfl⟩ ?_
  rintro⟨j,d⟩_⟨H,f⟩n
  refine uR 3 [.c [2,0,1,0,0,2,0,0,2,0,1,0,0,1,0],.c [2,0,1,0,0,2,0,0,2,0,1,0,0,2],.l [2,0,1,0,0,2,0,0,2,0,1,0,0],.b 2,.c [2,0,1,0,0,2,0,0,3],.b 1,.c [2,0,1,0,0,3],.l [2,0,1,0,0],.b 0,.c [3]] ?_
  refine qD (((j:Int):Int)<8) (fun x=>?_) (fun x=>?_)
  ·
   refine uR 3 [.c [2,0,1,0,0,2,0,0,2,0,1,0,0,2,0,0],.b 3,.c [2,0,1,0,0,2,0,0,2,0,1,0,0,3],.l [2,0,1,0,0,2,0,0,2,0,1,0,0],.b 2,.c [2,0,1,0,0,2,0,0,3],.b 1,.c [2,0,1,0,0,3],.l [2,0,1,0,0],.b 0,.c [3]] ?_
   refine qG (sq 0 8) ?_
   refine uP 1 ?_
   refine RW.pv (κ:=.seq) (d:=some 14) (r:=(sq 2 8)) (v:=.int .u32 (((d.toNat:Nat):Int).fdiv (2^1))) (v':=.int .u32 ((((d>>>1).toNat:Nat):Int))) (by as_aux_lemma=>kernel_rfl) (bv_shr32 _ 1) ?_
   refine uP 1 ?_
   refine RW.pv (κ:=.seq) (d:=some 16) (r:=(sq 4 8)) (v:=.int .u32 (IntKind.u32.wrap ((BitVec.ofInt 32 ((d.toNat:Nat):Int)&&&BitVec.ofInt 32 1).toNat:Nat))) (v':=.int .u32 ((((d&&&(1#32)).toNat:Nat):Int))) (by as_aux_lemma=>kernel_rfl) (bv_and32 (bvi _) (by decide)) ?_
   refine RW.pv (κ:=.seq) (d:=some 17) (r:=(sq 5 8)) (v:=.int .u32 (IntKind.u32.wrap (0-(((d&&&(1#32)).toNat:Nat):Int)))) (v':=.int .u32 (((-(d&&&(1#32))).toNat:Nat):Int)) (by as_aux_lemma=>kernel_rfl) (bv_neg32 (bvi _)) ?_
   refine RW.pv (κ:=.seq) (d:=some 18) (r:=(sq 6 8)) (v:=.int .u32 (IntKind.u32.wrap ((BitVec.ofInt 32 2197175160&&&BitVec.ofInt 32 (((-(d&&&(1#32))).toNat:Nat):Int)).toNat:Nat))) (v':=.int .u32 (((((2197175160#32)&&&(-(d&&&(1#32)))).toNat:Nat):Int))) (by as_aux_lemma=>kernel_rfl) (bv_and32 (by decide) (bvi _)) ?_
   refine RW.pv (κ:=.seq) (d:=some 19) (r:=(sq 7 8)) (v:=.int .u32 (IntKind.u32.wrap ((BitVec.ofInt 32 (((d>>>1).toNat:Nat):Int)^^^BitVec.ofInt 32 ((((2197175160#32)&&&(-(d&&&(1#32)))).toNat:Nat):Int)).toNat:Nat))) (v':=.int .u32 (((((d>>>1)^^^((2197175160#32)&&&(-(d&&&(1#32))))).toNat:Nat):Int))) (by as_aux_lemma=>kernel_rfl) (bv_xor32 (bvi _) (bvi _)) ?_
   refine uF 1 ?_
   refine uR 1 [.c [2,0,1,0,0,2,0,0,2,0,1,0,0,3],.l [2,0,1,0,0,2,0,0,2,0,1,0,0],.b 2,.c [2,0,1,0,0,2,0,0,3],.b 1,.c [2,0,1,0,0,3],.l [2,0,1,0,0],.b 0,.c [3]] ?_
   refine qG (sq 0 2) ?_
   refine uI ((j:Int)+1) ?_
   refine uF 1 ?_
   exact uB (n (j+1,(d>>>1)^^^((2197175160#32)&&&(-(d&&&(1#32))))) _ ⟨H,by omega,by rw[f.2];rfl⟩ (by first|omega|(simp only[];omega)))
  ·
   refine uR 1 [.c [2,0,1,0,0,2,0,0,3],.b 1,.c [2,0,1,0,0,3],.l [2,0,1,0,0],.b 0,.c [3]] ?_
   refine qG (sq 0 6) ?_
   refine uP 4 ?_
   refine RW.indexP (κ:=.seq) (d:=some 25) (r:=(sq 5 6)) (T:=310) (e:=80) (N:=256) (m:=1) (b:=a) (o:=0) (o2:=i) (ik:=.i64) (ix:=(i:Int)) (by as_aux_lemma=>kernel_rfl) (by as_aux_lemma=>kernel_rfl) i (by omega) (by omega) (by omega) ?_
   have s:i<(tabTo i).length:=by rw[tabTo_len];omega
   have q:256=(tabTo i).length:=by rw[tabTo_len]
   refine RW.storeP (d:=none) (r:=(sq 6 6)) (e:=80) (m:=1) (b:=a) (k:=i) (v:=.int .u32 ((d.toNat:Nat):Int)) (by as_aux_lemma=>kernel_rfl) (Nat.mul_one _).symm rfl (by as_aux_lemma=>kernel_rfl) H s q d Shape.bv_mk ?_
   intro _ H
   have H:=H.reW (ys:=tabTo (i+1)) ((by rw[f.2,show j=8 by omega];exact tabTo_set (by omega)))
   have H:Hp w S [] [] [⟨Shape.bv .u32 32,310,.slice (some ⟨a,0,none⟩) 256 256,tabTo (i+1)⟩] [] _:=H
   refine uF 0 ?_
   refine qR 1 [.c [2,0,1,0,0,3],.l [2,0,1,0,0],.b 0,.c [3]] [(1,.P a 0),(6,.I i)] ?_
   refine qG (sq 0 2) ?_
   refine uI ((i:Int)+1) ?_
   refine uF 1 ?_
   exact uB (h (i+1) _ ⟨H,by omega⟩ (by first|omega|(simp only[];omega)))
 ·
  refine uR 3 [.c [4]] ?_
  refine qT (.P a 0) Tryz.func144 ?_
  have t:i=256:=by omega
  subst t
  exact⟨_,rfl,H.done,_,rfl,H.pick [] rfl⟩
theorem crc_spec{S:Nat→Prop}{w:World}{xs:List (BitVec 8)}{a:Option Addr}{c0:Nat}(h:SB.rep S w [.slice a xs.length c0] xs):
 Calls Tryz.prog 88 #[.slice a xs.length c0] w (Ret fun v w'=>Ext w w'∧v=.int .u32 (((crcF xs).toNat:Nat):Int)):=by
 have hlen:=Shape.slice_len h
 refine uS1 Tryz.func88 ?_
 have H:=Hp.startF (.rp h .nil)
 refine uR 7 [.c [2,0,1],.c [3]] ?_
 refine qD ((((xs.length:Nat):Int):Int)<64) (fun E=>?_) (fun E=>?_)
 ·
  refine uR 4 [.c [2,0,1,0,0,1,0],.b 0,.c [2,0,1,0,1],.c [3]] ?_
  refine uL (α:=Nat×BitVec 32) (g:=88) (p:=[2,0,1,0,0,1,0,0]) (fun(i,c)=>[(3,.int .u32 ((c.toNat:Nat):Int)),(12,.slice a xs.length c0),(13,.I ((xs.length:Nat):Int)),(14,.I i)]) (fun(i,c)w'=>Hp w S [] [] [] [Rp SB [.slice a xs.length c0] xs] w'∧i≤xs.length∧c=(xs.take i).foldl crcStep 4294967295#32) (fun(i,c)=>xs.length-i) (0,4294967295#32) ⟨H,Nat.zero_le _,rfl⟩ ?_
  rintro⟨i,c⟩_⟨H,f⟩u
  refine uR 3 [.c [2,0,1,0,0,1,0,0,1,0],.c [2,0,1,0,0,1,0,0,2],.l [2,0,1,0,0,1,0,0],.b 0,.c [2,0,1,0,1],.c [3]] ?_
  refine qD (((i:Int):Int)<((xs.length:Nat):Int)) (fun F=>?_) (fun F=>?_)
  ·
   refine uR 4 [.c [2,0,1,0,0,1,0,0,2,0,0,0],.c [2,0,1,0,0,1,0,0,2,0,0,1],.b 1,.c [2,0,1,0,0,1,0,0,3],.l [2,0,1,0,0,1,0,0],.b 0,.c [2,0,1,0,1],.c [3]] ?_
   refine qG (sq 0 3) ?_
   have A:i<xs.length:=by omega
   refine uX 23 (i:Int) H 0 rfl i (by omega) (List.getElem?_eq_getElem A) ?_
   intro G J _ B H
   obtain rfl:=B
   refine uV 5 0 (H.fc 0 rfl) ?_
   refine uF 1 ?_
   refine uR 1 [.c [2,0,1,0,0,1,0,0,2,0,0,1,0],.c [2,0,1,0,0,1,0,0,2,0,0,2],.b 1,.c [2,0,1,0,0,1,0,0,3],.l [2,0,1,0,0,1,0,0],.b 0,.c [2,0,1,0,1],.c [3]] ?_
   refine qG (sq 0 5) ?_
   refine uP 2 ?_
   refine RW.pv (κ:=.seq) (d:=some 20) (r:=(sq 3 5)) (v:=.int .u32 (IntKind.u32.wrap ((((xs[i]).toNat:Nat):Int)))) (v':=.int .u32 ((((xs[i]).setWidth 32).toNat:Nat):Int)) (by as_aux_lemma=>kernel_rfl) (bv_cv8_32 _) ?_
   refine RW.pv (κ:=.seq) (d:=some 21) (r:=(sq 4 5)) (v:=.int .u32 (IntKind.u32.wrap ((BitVec.ofInt 32 ((c.toNat:Nat):Int)^^^BitVec.ofInt 32 ((((xs[i]).setWidth 32).toNat:Nat):Int)).toNat:Nat))) (v':=.int .u32 ((((c^^^((xs[i]).setWidth 32)).toNat:Nat):Int))) (by as_aux_lemma=>kernel_rfl) (bv_xor32 (bvi _) (bvi _)) ?_
   refine uF 1 ?_
   refine uR 3 [.c [2,0,1,0,0,1,0,0,2,0,0,3,0],.b 2,.b 1,.c [2,0,1,0,0,1,0,0,3],.l [2,0,1,0,0,1,0,0],.b 0,.c [2,0,1,0,1],.c [3]] ?_
   refine uL (α:=Nat×BitVec 32) (g:=88) (p:=[2,0,1,0,0,1,0,0,2,0,0,3,0,0]) (fun(j,d)=>[(3,.int .u32 ((d.toNat:Nat):Int)),(12,.slice a xs.length c0),(13,.I ((xs.length:Nat):Int)),(14,.I i),(22,.I j)]) (fun(j,d)w'=>Hp w S [] [] [] [Fc G J [.int .u8 (((xs[i]).toNat:Nat):Int)],Rp SB [.slice a xs.length c0] xs] w'∧j≤8∧d=bits j (c^^^(xs[i]).setWidth 32)) (fun(j,d)=>8-j) (0,c^^^((xs[i]).setWidth 32)) ⟨H,by omega,rfl⟩ ?_
   rintro⟨j,d⟩_⟨H,k⟩s
   refine uR 3 [.c [2,0,1,0,0,1,0,0,2,0,0,3,0,0,1,0],.c [2,0,1,0,0,1,0,0,2,0,0,3,0,0,2],.l [2,0,1,0,0,1,0,0,2,0,0,3,0,0],.b 2,.b 1,.c [2,0,1,0,0,1,0,0,3],.l [2,0,1,0,0,1,0,0],.b 0,.c [2,0,1,0,1],.c [3]] ?_
   refine qD (((j:Int):Int)<8) (fun C=>?_) (fun C=>?_)
   ·
    refine uR 3 [.c [2,0,1,0,0,1,0,0,2,0,0,3,0,0,2,0,0],.b 3,.c [2,0,1,0,0,1,0,0,2,0,0,3,0,0,3],.l [2,0,1,0,0,1,0,0,2,0,0,3,0,0],.b 2,.b 1,.c [2,0,1,0,0,1,0,0,3],.l [2,0,1,0,0,1,0,0],.b 0,.c [2,0,1,0,1],.c [3]] ?_
    refine qG (sq 0 8) ?_
    refine uP 1 ?_
    refine RW.pv (κ:=.seq) (d:=some 25) (r:=(sq 2 8)) (v:=.int .u32 (((d.toNat:Nat):Int).fdiv (2^1))) (v':=.int .u32 ((((d>>>1).toNat:Nat):Int))) (by as_aux_lemma=>kernel_rfl) (bv_shr32 _ 1) ?_
    refine uP 1 ?_
    refine RW.pv (κ:=.seq) (d:=some 27) (r:=(sq 4 8)) (v:=.int .u32 (IntKind.u32.wrap ((BitVec.ofInt 32 ((d.toNat:Nat):Int)&&&BitVec.ofInt 32 1).toNat:Nat))) (v':=.int .u32 ((((d&&&(1#32)).toNat:Nat):Int))) (by as_aux_lemma=>kernel_rfl) (bv_and32 (bvi _) (by decide)) ?_
    refine RW.pv (κ:=.seq) (d:=some 28) (r:=(sq 5 8)) (v:=.int .u32 (IntKind.u32.wrap (0-(((d&&&(1#32)).toNat:Nat):Int)))) (v':=.int .u32 (((-(d&&&(1#32))).toNat:Nat):Int)) (by as_aux_lemma=>kernel_rfl) (bv_neg32 (bvi _)) ?_
    refine RW.pv (κ:=.seq) (d:=some 29) (r:=(sq 6 8)) (v:=.int .u32 (IntKind.u32.wrap ((BitVec.ofInt 32 2197175160&&&BitVec.ofInt 32 (((-(d&&&(1#32))).toNat:Nat):Int)).toNat:Nat))) (v':=.int .u32 (((((2197175160#32)&&&(-(d&&&(1#32)))).toNat:Nat):Int))) (by as_aux_lemma=>kernel_rfl) (bv_and32 (by decide) (bvi _)) ?_
    refine RW.pv (κ:=.seq) (d:=some 30) (r:=(sq 7 8)) (v:=.int .u32 (IntKind.u32.wrap ((BitVec.ofInt 32 (((d>>>1).toNat:Nat):Int)^^^BitVec.ofInt 32 ((((2197175160#32)&&&(-(d&&&(1#32)))).toNat:Nat):Int)).toNat:Nat))) (v':=.int .u32 (((((d>>>1)^^^((2197175160#32)&&&(-(d&&&(1#32))))).toNat:Nat):Int))) (by as_aux_lemma=>kernel_rfl) (bv_xor32 (bvi _) (bvi _)) ?_
    refine uF 1 ?_
    refine uR 1 [.c [2,0,1,0,0,1,0,0,2,0,0,3,0,0,3],.l [2,0,1,0,0,1,0,0,2,0,0,3,0,0],.b 2,.b 1,.c [2,0,1,0,0,1,0,0,3],.l [2,0,1,0,0,1,0,0],.b 0,.c [2,0,1,0,1],.c [3]] ?_
    refine qG (sq 0 2) ?_
    refine uI ((j:Int)+1) ?_
    refine uF 1 ?_
    exact uB (s (j+1,(d>>>1)^^^((2197175160#32)&&&(-(d&&&(1#32))))) _ ⟨H,by omega,by rw[k.2];rfl⟩ (by first|omega|(simp only[];omega)))
   ·
    refine uR 2 [.c [2,0,1,0,0,1,0,0,3],.l [2,0,1,0,0,1,0,0],.b 0,.c [2,0,1,0,1],.c [3]] ?_
    refine qG (sq 0 2) ?_
    refine uI ((i:Int)+1) ?_
    refine uF 1 ?_
    have H:=H.pick [1] rfl
    exact uB (u (i+1,d) _ ⟨H,by omega,by rw[k.2,f.2,fold_take (by omega),show j=8 by omega];rfl⟩ (by first|omega|(simp only[];omega)))
  ·
   refine uR 2 [.c [2,0,1,0,1,0],.c [2,0,1,0,2],.c [3]] ?_
   refine qG (sq 0 3) ?_
   refine uP 1 ?_
   refine RW.pv (κ:=.seq) (d:=some 34) (r:=(sq 2 3)) (v:=.int .u32 (IntKind.u32.wrap ((BitVec.ofInt 32 4294967295^^^BitVec.ofInt 32 ((c.toNat:Nat):Int)).toNat:Nat))) (v':=.int .u32 (((~~~c).toNat:Nat):Int)) (by as_aux_lemma=>kernel_rfl) (bv_not32 (bvi _)) ?_
   refine uF 1 ?_
   refine qT (.int .u32 (((~~~c).toNat:Nat):Int)) Tryz.func88 ?_
   refine⟨_,rfl,H.done,?_⟩
   unfold crcF
   rw[f.2,List.take_of_length_le (by omega)]
 ·
  refine uR 2 [.c [3,0],.c [4]] ?_
  refine qG (sq 0 2) ?_
  refine uK (table_spec (S:=Av S w [] (idsOf [] []))) ?_
  rintro _ _-⟨n,rfl,H'⟩
  have H:=H.back (M1:=[]) (W1:=[]) H'
  have H:Hp w S [] [] [⟨Shape.bv .u32 32,310,.slice (some ⟨n,0,none⟩) 256 256,tabTo 256⟩] [_] _:=H
  refine uF 1 ?_
  refine uR 4 [.c [4,0,1,0],.b 4,.c [5]] ?_
  refine uL (α:=Nat×BitVec 32) (g:=88) (p:=[4,0,1,0,0]) (fun(i,c)=>[(3,.int .u32 ((c.toNat:Nat):Int)),(6,.P n 0),(36,.slice a xs.length c0),(37,.I ((xs.length:Nat):Int)),(38,.I i)]) (fun(i,c)w'=>Hp w S [] [] [⟨Shape.bv .u32 32,310,.slice (some ⟨n,0,none⟩) 256 256,tabTo 256⟩] [Rp SB [.slice a xs.length c0] xs] w'∧i≤xs.length∧c=(xs.take i).foldl crcStep 4294967295#32) (fun(i,c)=>xs.length-i) (0,4294967295#32) ⟨H,Nat.zero_le _,rfl⟩ ?_
  rintro⟨i,c⟩_⟨H,q⟩t
  refine uR 3 [.c [4,0,1,0,0,1,0],.c [4,0,1,0,0,2],.l [4,0,1,0,0],.b 4,.c [5]] ?_
  refine qD (((i:Int):Int)<((xs.length:Nat):Int)) (fun D=>?_) (fun D=>?_)
  ·
   refine uR 4 [.c [4,0,1,0,0,2,0,0,0],.c [4,0,1,0,0,2,0,0,1],.b 5,.c [4,0,1,0,0,3],.l [4,0,1,0,0],.b 4,.c [5]] ?_
   refine qG (sq 0 3) ?_
   have x:i<xs.length:=by omega
   refine uX 23 (i:Int) H 0 rfl i (by omega) (List.getElem?_eq_getElem x) ?_
   intro _ _ _ y H
   obtain rfl:=y
   refine uV 5 0 (H.fc 0 rfl) ?_
   refine uF 1 ?_
   refine qG (sq 0 12) ?_
   refine uP 1 ?_
   refine RW.pv (κ:=.seq) (d:=some 43) (r:=(sq 2 12)) (v:=.int .u32 (((c.toNat:Nat):Int).fdiv (2^8))) (v':=.int .u32 ((((c>>>8).toNat:Nat):Int))) (by as_aux_lemma=>kernel_rfl) (bv_shr32 _ 8) ?_
   refine uP 2 ?_
   refine RW.pv (κ:=.seq) (d:=some 46) (r:=(sq 5 12)) (v:=.int .u8 (IntKind.u8.wrap (((c.toNat:Nat):Int)))) (v':=.int .u8 (((c.setWidth 8).toNat:Nat):Int)) (by as_aux_lemma=>kernel_rfl) (bv_cv32_8 _) ?_
   refine uP 1 ?_
   refine RW.pv (κ:=.seq) (d:=some 48) (r:=(sq 7 12)) (v:=.int .u8 (IntKind.u8.wrap ((BitVec.ofInt 8 (((c.setWidth 8).toNat:Nat):Int)^^^BitVec.ofInt 8 (((xs[i]).toNat:Nat):Int)).toNat:Nat))) (v':=.int .u8 (((((c.setWidth 8)^^^(xs[i])).toNat:Nat):Int))) (by as_aux_lemma=>kernel_rfl) (bv_xor8 (bvi _) (bvi _)) ?_
   refine uP 1 ?_
   refine RW.indexP (κ:=.seq) (d:=some 50) (r:=(sq 9 12)) (T:=310) (e:=80) (N:=256) (m:=1) (b:=n) (o:=0) (o2:=((c.setWidth 8)^^^(xs[i])).toNat) (ik:=.u8) (ix:=((((c.setWidth 8)^^^(xs[i])).toNat:Nat):Int)) (by as_aux_lemma=>kernel_rfl) (by as_aux_lemma=>kernel_rfl) (((c.setWidth 8)^^^(xs[i])).toNat) (by omega) (by have:=((c.setWidth 8)^^^(xs[i])).isLt;omega) (by omega) ?_
   have z:((c.setWidth 8)^^^(xs[i])).toNat<(tabTo 256).length:=by have:=((c.setWidth 8)^^^(xs[i])).isLt;rw[tabTo_len];omega
   refine uV 80 0 (show Cells _ _ _ [.int .u32 (((bits 8 (((c.setWidth 8)^^^(xs[i])).setWidth 32)).toNat:Nat):Int)]from by have hq:=H.ownBv (((c.setWidth 8)^^^(xs[i])).toNat) z (by rw[tabTo_len]);rw[tabTo_get _]at hq;exact hq) ?_
   refine RW.pv (κ:=.seq) (d:=some 52) (r:=(sq 11 12)) (v:=.int .u32 (IntKind.u32.wrap ((BitVec.ofInt 32 (((c>>>8).toNat:Nat):Int)^^^BitVec.ofInt 32 (((bits 8 (((c.setWidth 8)^^^(xs[i])).setWidth 32)).toNat:Nat):Int)).toNat:Nat))) (v':=.int .u32 (((((c>>>8)^^^(bits 8 (((c.setWidth 8)^^^(xs[i])).setWidth 32))).toNat:Nat):Int))) (by as_aux_lemma=>kernel_rfl) (bv_xor32 (bvi _) (bvi _)) ?_
   refine uF 1 ?_
   refine uR 1 [.c [4,0,1,0,0,3],.l [4,0,1,0,0],.b 4,.c [5]] ?_
   refine qG (sq 0 2) ?_
   refine uI ((i:Int)+1) ?_
   refine uF 1 ?_
   have H:=H.pick [1] rfl
   exact uB (t (i+1,(c>>>8)^^^(bits 8 (((c.setWidth 8)^^^(xs[i])).setWidth 32))) _ ⟨H,by omega,by rw[fold_take (by omega),←q.2,crcStep_tab]⟩ (by first|omega|(simp only[];omega)))
  ·
   refine qR 2 [.c [5,0],.c [6]] [(3,.int .u32 ((c.toNat:Nat):Int))] ?_
   refine qG (sq 0 3) ?_
   refine uP 1 ?_
   refine RW.pv (κ:=.seq) (d:=some 55) (r:=(sq 2 3)) (v:=.int .u32 (IntKind.u32.wrap ((BitVec.ofInt 32 4294967295^^^BitVec.ofInt 32 ((c.toNat:Nat):Int)).toNat:Nat))) (v':=.int .u32 (((~~~c).toNat:Nat):Int)) (by as_aux_lemma=>kernel_rfl) (bv_not32 (bvi _)) ?_
   refine uF 1 ?_
   refine qT (.int .u32 (((~~~c).toNat:Nat):Int)) Tryz.func88 ?_
   refine⟨_,rfl,H.done,?_⟩
   unfold crcF
   rw[q.2,List.take_of_length_le (by omega)]
abbrev Bs:=List (BitVec 8)
def wordB(n:BitVec 32):Bs:=[n.setWidth 8,(n>>>8).setWidth 8,(n>>>16).setWidth 8,(n>>>24).setWidth 8]
def wordV(b0 b1 b2 b3:BitVec 8):BitVec 32:=b0.setWidth 32|||(b1.setWidth 32)<<<8|||(b2.setWidth 32)<<<16|||(b3.setWidth 32)<<<24
theorem word_back(n:BitVec 32):wordV (n.setWidth 8) ((n>>>8).setWidth 8) ((n>>>16).setWidth 8) ((n>>>24).setWidth 8)=n:=by
 apply BitVec.eq_of_getLsbD_eq
 intro i hi
 simp only[wordV,BitVec.getLsbD_or,BitVec.getLsbD_shiftLeft,BitVec.getLsbD_setWidth,BitVec.getLsbD_ushiftRight]
 rcases Nat.lt_or_ge i 8 with a|a
 ·simp[a,hi,show i<16 by omega,show i< 24 by omega]
 · rcases Nat.lt_or_ge i 16 with b | b
   · simp[hi, show ¬ i <8 by omega,b,show i<24 by omega,show i-8<32 by omega,show i-8<8 by omega,show 8+(i - 8) = i by omega]
   · rcases Nat.lt_or_ge i 24 with c | c
     · simp[hi, show¬i<8 by omega,show¬i<16 by omega,c,show i-16<32 by omega,show i-16<8 by omega,show 16+(i-16)=i by omega,show¬i-8<8 by omega]
     ·simp[hi,show¬i<8 by omega,show¬i<16 by omega,show¬i<24 by omega,show i-24<32 by omega,show i-24<8 by omega,show 24+(i-24)=i by omega,show¬i-8<8 by omega,show¬i-16<8 by omega]
def wordAt(l:Bs):BitVec 32:=wordV (l.getD 0 0#8) (l.getD 1 0#8) (l.getD 2 0#8) (l.getD 3 0#8)
theorem wordAt_app(n:BitVec 32)(r:Bs):wordAt (wordB n++r)=n:=word_back n
theorem wordB_len(n:BitVec 32):(wordB n).length=4:=rfl
def openF(b:Bs)(n:Nat):Option (Bs×Bs):=if b.length<n+4 then none else if wordAt (b.drop n)=crcF (b.take n)then some (b.take n,b.drop (n+4))else none
def nextF(s:Bs):Option Bs:=match openF s 4 with
 |none=>none
 |some (l,rest)=>if 4194304<(wordAt l).toNat then none else(openF rest (wordAt l).toNat).map (·.1)
theorem openF_len{b x r:Bs}{n:Nat}(h:openF b n=some (x,r)):x.length=n∧b.length=n+4+r.length:=by
 unfold openF at h
 split at h
 · cases h
 · split at h
   · cases h
     rw[List.length_take, List.length_drop];omega
   ·cases h
theorem nextF_len{s b:Bs}(h:nextF s=some b):b.length+12≤s.length∧b.length≤4194304:=by
 unfold nextF at h
 split at h
 · cases h
 · rename_i l rest he
   have a:=openF_len he
   split at h
   ·cases h
   ·cases ho:openF rest (wordAt l).toNat with
     |none=>rw[ho]at h;cases h
     |some x=>
      rw[ho]at h
      obtain⟨_,_⟩:=x
      simp only[Option.map_some,Option.some.injEq]at h
      subst h
      have c:=openF_len ho
      omega
def allW(s:Bs):List Bs:=match h:nextF s with
 |none=>[]
 |some b=>b::allW (s.drop (b.length+12))
termination_by s.length
decreasing_by
 have := nextF_len h
 rw [List.length_drop]; omega
theorem allW_none{s:Bs}(h:nextF s=none):allW s=[]:=by
 rw[allW]
 split
 ·rfl
 ·rename_i b hb;rw[h]at hb;cases hb
theorem allW_some{s b:Bs}(h:nextF s=some b):allW s=b::allW (s.drop (b.length+12)):=by
 rw[allW]
 split
 ·rename_i hb;rw[h]at hb;cases hb
 ·rename_i b' hb;rw[h]at hb;cases hb;rfl
def sealF(out b:Bs):Bs:=out++b++wordB (crcF b)
def frameF(b:Bs):Bs:=sealF (sealF [] (wordB (BitVec.ofNat 32 b.length))) b
theorem frame_len(b:Bs):(frameF b).length=b.length+12:=by
 unfold frameF sealF
 simp only[List.length_append,wordB_len,List.length_nil];omega
theorem open_seal(x y:Bs):openF (x++(wordB (crcF x)++y)) x.length=some (x,y):=by
 unfold openF
 rw[if_neg (by simp only[List.length_append,wordB_len];omega),List.drop_left,List.take_left,if_pos (wordAt_app _ _)]
 congr 2
 rw[show x.length+4=(x++wordB (crcF x)).length by rw[List.length_append,wordB_len],←List.append_assoc,List.drop_left]
theorem frame_eq(b r:Bs):frameF b++r=wordB (BitVec.ofNat 32 b.length)++(wordB (crcF (wordB (BitVec.ofNat 32 b.length)))++(b++(wordB (crcF b)++r))):=by
 unfold frameF sealF
 simp only[List.nil_append,List.append_assoc]
theorem num_back{n:Nat}(h:n≤4194304):(BitVec.ofNat 32 n).toNat=n:=by
 rw[BitVec.toNat_ofNat];omega
theorem next_frame{b:Bs}(hb:b.length≤4194304)(r:Bs):nextF (frameF b++r)=some b:=by
 unfold nextF
 rw[frame_eq]
 have a:=open_seal (wordB (BitVec.ofNat 32 b.length)) (b++(wordB (crcF b)++r))
 rw[wordB_len]at a
 rw[a]
 simp only
 have e:wordAt (wordB (BitVec.ofNat 32 b.length))=BitVec.ofNat 32 b.length:=by
  have:=wordAt_app (BitVec.ofNat 32 b.length) []
  rwa[List.append_nil]at this
 rw[e,num_back hb,if_neg (by omega),open_seal]
 rfl
theorem next_short{b:Bs}(hb:b.length≤4194304){t:Nat}(ht:t<b.length+12):nextF ((frameF b).take t)=none:=by
 have hlen:((frameF b).take t).length=t:=by rw[List.length_take,frame_len]; omega
 unfold nextF
 by_cases h8 : t < 8
 · have:openF ((frameF b).take t) 4=none:= by
    unfold openF
    rw[if_pos (by omega)]
   rw[this]
 · have a := frame_eq b []
   rw[List.append_nil]at a
   have d : (frameF b).take t=wordB (BitVec.ofNat 32 b.length)++(wordB (crcF (wordB (BitVec.ofNat 32 b.length)))++(b++(wordB (crcF b)++[])).take (t-8)):=by
    rw[a,List.take_append,List.take_append,List.take_of_length_le (by rw[wordB_len];omega),List.take_of_length_le (l:=wordB (crcF (wordB (BitVec.ofNat 32 b.length)))) (by rw[wordB_len,wordB_len];omega),wordB_len,wordB_len,Nat.sub_sub]
   rw[d]
   have c:=open_seal (wordB (BitVec.ofNat 32 b.length)) ((b++(wordB (crcF b)++[])).take (t-8))
   rw[wordB_len]at c
   rw[c]
   simp only
   have e:wordAt (wordB (BitVec.ofNat 32 b.length))=BitVec.ofNat 32 b.length:=by
    have:=wordAt_app (BitVec.ofNat 32 b.length) []
    rwa[List.append_nil]at this
   rw[e,num_back hb,if_neg (by omega)]
   unfold openF
   rw[if_pos (by rw[List.length_take];omega)]
   rfl
def framesF(l:List Bs):Bs:=l.flatMap frameF
theorem framesF_cons(b:Bs)(l:List Bs):framesF (b::l)=frameF b++framesF l:=List.flatMap_cons
theorem framesF_app(l m:List Bs):framesF (l++m)=framesF l++framesF m:=List.flatMap_append
theorem framesF_one(b:Bs):framesF [b]=frameF b:=by rw[framesF_cons];exact List.append_nil _
theorem allW_nil:allW []=[]:=allW_none (by unfold nextF openF;rw[if_pos (by decide)])
theorem all_take:∀{l:List Bs},(∀b∈l,b.length≤4194304)→∀t:Nat,∃m,m≤l.length∧allW ((framesF l).take t)=l.take m∧∀k,k≤l.length→(framesF (l.take k)).length≤t→k≤m
 |[],_,t=>⟨0,Nat.le_refl _,by rw[show framesF []=[]from rfl,List.take_nil,List.take_nil,allW_nil],fun k hk _=>hk⟩
 |b::l,hl,t=>by
  have hb:=hl b (List.mem_cons_self ..)
  rw[framesF_cons]
  by_cases ht:t < b.length + 12
  · refine⟨0, Nat.zero_le _, ?_, fun k hk hkt=>?_⟩
    ·rw[List.take_append_of_le_length (by rw[frame_len];omega),allW_none (next_short hb ht),List.take_zero]
    ·cases k with
      |zero=> exact Nat.le_refl _
      | succ k =>
       rw[List.take_succ_cons, framesF_cons, List.length_append, frame_len]at hkt
       omega
  · obtain⟨m, h1,h2,h3⟩:=all_take (fun x hx=>hl x (List.mem_cons_of_mem _ hx)) (t-(b.length+12))
    refine⟨m+1,by rw[List.length_cons];omega,?_,fun k hk hkt=>?_⟩
    ·rw[List.take_append,List.take_of_length_le (by rw[frame_len];omega),frame_len,allW_some (next_frame hb _),show b.length+12=(frameF b).length from(frame_len b).symm,List.drop_left,frame_len,h2,List.take_succ_cons]
    ·cases k with
      |zero=>omega
      |succ k=>
       rw[List.take_succ_cons,framesF_cons,List.length_append,frame_len]at hkt
       rw[List.length_cons]at hk
       have:=h3 k (by omega) (by omega)
       omega
def chunkF(σ:Bs)(i:Nat):Bs:=(σ.drop (63*i)).take 63
theorem chunk_le(σ:Bs)(i:Nat):(chunkF σ i).length≤63:=by unfold chunkF;rw[List.length_take];omega
theorem chunk_nil(i:Nat):chunkF [] i=[]:=by unfold chunkF;simp
def secB(c:Bs):Sec:=fun j=>(BitVec.ofNat 8 c.length::c).getD j 0#8
theorem secB_zero:secB []=zeroSec:=by
 funext j
 cases j with
 |zero=>rfl
 |succ j=>cases j<;>rfl
def cntS(s:Sec):Nat:=(s 0).toNat
def bytesS(s:Sec)(k:Nat):Bs:=((secL s).drop 1).take k
theorem cnt_secB{c:Bs}(h:c.length≤63):cntS (secB c)=c.length:=by
 show(BitVec.ofNat 8 c.length).toNat=_
 rw[BitVec.toNat_ofNat];omega
theorem bytes_secB{c:Bs}(h:c.length≤63):bytesS (secB c) c.length=c:=by
 unfold bytesS
 apply List.ext_getElem
 ·rw[List.length_take,List.length_drop,secL_len]; omega
 · intro i _ a
   rw[List.getElem_take,List.getElem_drop]
   unfold secL
   rw[List.getElem_map,List.getElem_range]
   show(BitVec.ofNat 8 c.length::c).getD (1+i) 0#8=c[i]
   rw[Nat.add_comm,List.getD_cons_succ,List.getD_eq_getElem?_getD,List.getElem?_eq_getElem a];rfl
theorem secB_inj{c d:Bs}(hc:c.length≤63)(hd:d.length≤63)(h:secB c=secB d):c=d:=by
 have a:=bytes_secB hc
 have b:=cnt_secB hc
 have e:=cnt_secB hd
 rw[h,e]at b
 rw[h,←b,bytes_secB hd]at a
 exact a.symm
def readG(g:Nat→Sec):Nat→Nat→Bs
 |0,_=>[]
 |n+1,i=>if 63<cntS (g i)then[]else bytesS (g i) (cntS (g i))++if cntS (g i)<63 then[]else readG g n (i+1)
theorem readG_secB{g:Nat→Sec}{n i:Nat}{c:Bs}(hc:c.length≤63)(h:g i=secB c):readG g (n+1) i=c++if c.length<63 then[]else readG g n (i+1):=by
 rw[readG,h,cnt_secB hc,if_neg (by omega),bytes_secB hc]
theorem drop_chunk(σ:Bs)(i:Nat):σ.drop (63*i)=chunkF σ i++σ.drop (63*(i+1)):=by
 unfold chunkF
 rw[show 63*(i+1)=63*i+63 by omega,←List.drop_drop,List.take_append_drop]
theorem chunk_short{σ:Bs}{i:Nat}(h:(chunkF σ i).length<63):σ.drop (63*i)=chunkF σ i:=by
 unfold chunkF at h⊢
 rw[List.length_take]at h
 rw[List.take_of_length_le (by omega)]
theorem read_btw{σ0 σ:Bs}{g:Nat→Sec}(hg:∀i,∃c,g i=secB c∧chunkF σ0 i<+:c∧c<+:chunkF σ i):∀(n i:Nat),(∀j,i+n≤j→g j=secB [])→σ0.drop (63*i)<+:readG g n i∧readG g n i<+:σ.drop (63*i)
 |0,i,hz=>by
  rw[readG]
  refine⟨?_,List.nil_prefix⟩
  obtain⟨c,h1,h2,h3⟩:=hg i
  have hc:c.length≤63:=Nat.le_trans h3.length_le (chunk_le _ _)
  have:c=[]:=secB_inj hc (by decide) (h1.symm.trans (hz i (Nat.le_refl _)))
  subst this
  have h4:chunkF σ0 i=[]:=List.prefix_nil.1 h2
  rw[chunk_short (by rw[h4];decide),h4]
  exact List.prefix_refl _
 |n+1,i,hz=>by
  obtain⟨c,h1,h2,h3⟩:=hg i
  have hc:c.length≤63:=Nat.le_trans h3.length_le (chunk_le _ _)
  rw[readG_secB hc h1]
  by_cases hl:c.length<63
  · rw[if_pos hl, List.append_nil]
    refine⟨?_, h3.trans (by rw[drop_chunk]; exact List.prefix_append _ _)⟩
    rw[chunk_short (Nat.lt_of_le_of_lt h2.length_le hl)]
    exact h2
  · rw[if_neg hl]
    obtain⟨k1, k2⟩:= read_btw hg n (i + 1) fun j hj =>hz j (by omega)
    have e3:c=chunkF σ i:=h3.eq_of_length (by have:=chunk_le σ i; have := h3.length_le; omega)
    refine⟨?_, ?_⟩
    · by_cases h0 : (chunkF σ0 i).length < 63
      · rw[chunk_short h0]
        exact h2.trans (List.prefix_append _ _)
      · have e2 : chunkF σ0 i = c := h2.eq_of_length (by have := chunk_le σ0 i; have := h2.length_le; omega)
        rw[drop_chunk, e2]
        exact(List.prefix_append_right_inj c).2 k1
    · rw[drop_chunk, ← e3]
      exact(List.prefix_append_right_inj c).2 k2
theorem allW_len:∀(s:Bs),(allW s).length≤s.length:=by
 intro s
 induction h:s.length using Nat.strongRecOn generalizing s with
 |_ n ih=>
  cases hn:nextF s with
  |none=>rw[allW_none hn];exact Nat.zero_le _
  |some b=>
   have hb:=nextF_len hn
   rw[allW_some hn,List.length_cons]
   have:=ih (s.drop (b.length+12)).length (by rw[List.length_drop];omega) _ rfl
   rw[List.length_drop]at this
   omega
end Go.Proofs.YtdnibpclkhenmaaGreatDoor

namespace Go.Proofs.YtdnibpclkhenmaaGreatDoor
open Go.BX
theorem word_spec{S:Nat→Prop}{w:World}(n:BitVec 32):
 Calls Tryz.prog 116 #[.int .u32 ((n.toNat:Nat):Int)] w (Ret fun v w'=>Ext w w'∧∃(a:Option Addr)(c:Nat),v=.slice a (wordB n).length c∧SB.rep (Nw S w) w' [.slice a (wordB n).length c] (wordB n)):=by
 refine uS1 Tryz.func116 ?_
 have H:=Hp.startF (w:=w) (S:=S) (G:=[]) .nil
 refine uR 3 [.c [1,0],.c [2]] ?_
 refine qG (sq 0 13) ?_
 refine uP 1 ?_
 refine RW.pv (κ:=.seq) (d:=some 4) (r:=(sq 2 13)) (v:=.int .u8 (IntKind.u8.wrap (((n.toNat:Nat):Int)))) (v':=.int .u8 (((n.setWidth 8).toNat:Nat):Int)) (by as_aux_lemma=>kernel_rfl) (bv_cv32_8 _) ?_
 refine uP 1 ?_
 refine RW.pv (κ:=.seq) (d:=some 6) (r:=(sq 4 13)) (v:=.int .u32 (((n.toNat:Nat):Int).fdiv (2^8))) (v':=.int .u32 ((((n>>>8).toNat:Nat):Int))) (by as_aux_lemma=>kernel_rfl) (bv_shr32 _ 8) ?_
 refine RW.pv (κ:=.seq) (d:=some 7) (r:=(sq 5 13)) (v:=.int .u8 (IntKind.u8.wrap ((((n>>>8).toNat:Nat):Int)))) (v':=.int .u8 ((((n>>>8).setWidth 8).toNat:Nat):Int)) (by as_aux_lemma=>kernel_rfl) (bv_cv32_8 _) ?_
 refine uP 1 ?_
 refine RW.pv (κ:=.seq) (d:=some 9) (r:=(sq 7 13)) (v:=.int .u32 (((n.toNat:Nat):Int).fdiv (2^16))) (v':=.int .u32 ((((n>>>16).toNat:Nat):Int))) (by as_aux_lemma=>kernel_rfl) (bv_shr32 _ 16) ?_
 refine RW.pv (κ:=.seq) (d:=some 10) (r:=(sq 8 13)) (v:=.int .u8 (IntKind.u8.wrap ((((n>>>16).toNat:Nat):Int)))) (v':=.int .u8 ((((n>>>16).setWidth 8).toNat:Nat):Int)) (by as_aux_lemma=>kernel_rfl) (bv_cv32_8 _) ?_
 refine uP 1 ?_
 refine RW.pv (κ:=.seq) (d:=some 12) (r:=(sq 10 13)) (v:=.int .u32 (((n.toNat:Nat):Int).fdiv (2^24))) (v':=.int .u32 ((((n>>>24).toNat:Nat):Int))) (by as_aux_lemma=>kernel_rfl) (bv_shr32 _ 24) ?_
 refine RW.pv (κ:=.seq) (d:=some 13) (r:=(sq 11 13)) (v:=.int .u8 (IntKind.u8.wrap ((((n>>>24).toNat:Nat):Int)))) (v':=.int .u8 ((((n>>>24).setWidth 8).toNat:Nat):Int)) (by as_aux_lemma=>kernel_rfl) (bv_cv32_8 _) ?_
 refine RW.new (κ:=.seq) (d:=some 14) (r:=(sq 12 13)) (o:=.cells #[.int .u8 (((n.setWidth 8).toNat:Nat):Int),.int .u8 ((((n>>>8).setWidth 8).toNat:Nat):Int),.int .u8 ((((n>>>16).setWidth 8).toNat:Nat):Int),.int .u8 ((((n>>>24).setWidth 8).toNat:Nat):Int)] 5 (0,0)) (v:=fun b=>.slice (some ⟨b,0,none⟩) 4 4) (fun b=>by as_aux_lemma=>kernel_rfl) (nofun) H ?_
 intro e _ H
 refine uF 1 ?_
 refine qT (.slice (some ⟨e,0,none⟩) 4 4) Tryz.func116 ?_
 have H:=H.freeze 0 rfl Sb ([n.setWidth 8,(n>>>8).setWidth 8,(n>>>16).setWidth 8,(n>>>24).setWidth 8]:List (BitVec 8)) 4 (by simp[maxLen]) (by first|exact Nat.le_refl _|simp) (EsP.cons (c:=[.int .u8 (((n.setWidth 8).toNat:Nat):Int)]) Shape.bv_mk (EsP.cons (c:=[.int .u8 ((((n>>>8).setWidth 8).toNat:Nat):Int)]) Shape.bv_mk (EsP.cons (c:=[.int .u8 ((((n>>>16).setWidth 8).toNat:Nat):Int)]) Shape.bv_mk (EsP.cons (c:=[.int .u8 ((((n>>>24).setWidth 8).toNat:Nat):Int)]) Shape.bv_mk EsP.nil))))
 have H:Hp w S [] [] [] [Rp SB [.slice (some ⟨e,0,none⟩) 4 4] ([n.setWidth 8,(n>>>8).setWidth 8,(n>>>16).setWidth 8,(n>>>24).setWidth 8]:List (BitVec 8))] _:=H
 exact⟨_,rfl,H.done,_,_,rfl,H.out (H.rp 0 rfl)⟩
theorem sealed_spec{S:Nat→Prop}{w:World}{O:List Nat}{xs bs:List (BitVec 8)}{a b:Option Addr}{c d:Nat}(hl1:xs.length≤100000000)(hl2:bs.length≤100000000)(H0:Hp w S O [] [⟨Sb,5,.slice a xs.length c,xs⟩] [Rp SB [.slice b bs.length d] bs] w):
 Calls Tryz.prog 115 #[.slice a xs.length c,.slice b bs.length d] w (Ret fun v w'=>∃(a':Option Addr)(c':Nat),v=.slice a' (sealF xs bs).length c'∧Hp w S O [] [⟨Sb,5,.slice a' (sealF xs bs).length c',sealF xs bs⟩] [] w'):=by
 refine uS1 Tryz.func115 ?_
 have H:=H0
 refine uR 3 [.c [1,0],.c [2]] ?_
 refine qG (sq 0 8) ?_
 refine uP 2 ?_
 refine uA 23 23 1 (xs++bs) H 0 rfl 0 rfl (rfl) (by rw[List.length_append];omega) ?_
 intro i j _ H _
 have H:Hp w S O [] [⟨Sb,5,.slice i (xs++bs).length j,(xs++bs)⟩] [_] _:=H
 refine uP 1 ?_
 refine uK (crc_spec (H.rp 0 rfl)) ?_
 rintro _ _ k rfl
 have H:=H.ext k
 refine uK (word_spec (S:=Av S w O (idsOf [] [⟨Sb,5,.slice i (xs++bs).length j,(xs++bs)⟩])) (crcF bs)) ?_
 rintro _ _ g⟨_,_,rfl,h⟩
 have H:=H.addM g h
 refine uA 23 23 1 (sealF xs bs) H 0 rfl 0 rfl (rfl) (by unfold sealF;simp only[List.length_append,wordB_len];omega) ?_
 intro e f _ H _
 have H:Hp w S O [] [⟨Sb,5,.slice e (sealF xs bs).length f,(sealF xs bs)⟩] [_,_] _:=H
 refine uF 1 ?_
 refine qT (.slice e (sealF xs bs).length f) Tryz.func115 ?_
 have H:=H.drop (M':=[]) (W':=[_]) (List.nil_sublist _) (by repeat(first|exact List.Sublist.refl _|exact List.nil_sublist _|apply List.Sublist.cons_cons|apply List.Sublist.cons))
 exact⟨_,rfl,_,_,rfl,H.pick [] rfl⟩
theorem frame_spec{S:Nat→Prop}{w:World}{xs:List (BitVec 8)}{a:Option Addr}{c:Nat}(h:SB.rep S w [.slice a xs.length c] xs)(hl:xs.length≤4194304):
 Calls Tryz.prog 57 #[.slice a xs.length c] w (Ret fun v w'=>Ext w w'∧∃(a':Option Addr)(c':Nat),v=.tuple #[.slice a' (frameF xs).length c',.I 0]∧Hp w S [] [] [⟨Sb,5,.slice a' (frameF xs).length c',frameF xs⟩] [] w'):=by
 refine uS1 Tryz.func57 ?_
 have H:=Hp.startF (.rp h .nil)
 refine uR 5 [.c [1,0,1],.c [2]] ?_
 refine qD ((((xs.length:Nat):Int):Int)>4194304) (fun h1=>?_) (fun h1=>?_)
 ·
  omega
 ·
  refine qR 2 [.c [2,0],.c [3]] [(0,.slice a xs.length c)] ?_
  refine WK.joinV (α:=Option Addr×Nat) (fun(g,f)w_=>Hp w S [] [] [⟨Sb,5,.slice g (frameF xs).length f,frameF xs⟩] [Rp SB [.slice a xs.length c] xs] w_∧True) (fun(g,f)=>[(2,.slice g (frameF xs).length f),(3,.I 0)]) [Cq Tryz.prog 57 [3]] (fun b=>?_) ?_
  ·
   refine WK.drawO1 [0,1,4,5,9] [(16,.slice a xs.length c),(12,.I ((xs.length:Nat):Int)),(11,.slice a xs.length c),(8,.I ((xs.length:Nat):Int)),(7,.slice a xs.length c),(0,.slice a xs.length c)] (.node [] (.cons 2 (.node [] (.cons 3 (.leaf [(6,.seq),(7,.seq),(8,.seq),(10,.seq),(11,.seq),(12,.seq)]) (.cons 6 (.node [] (.cons 3 (.leaf [(7,.seq),(8,.seq),(10,.seq),(11,.seq),(12,.seq)]) (.cons 7 (.leaf [(3,.seq),(8,.seq),(10,.seq),(11,.seq),(12,.seq)]) .nil))) .nil))) (.cons 6 (.node [] (.cons 2 (.node [] (.cons 3 (.leaf [(7,.seq),(8,.seq),(10,.seq),(11,.seq),(12,.seq)]) (.cons 7 (.leaf [(3,.seq),(8,.seq),(10,.seq),(11,.seq),(12,.seq)]) .nil))) (.cons 7 (.leaf [(2,.seq),(3,.seq),(8,.seq),(10,.seq),(11,.seq),(12,.seq)]) .nil))) .nil))) Tryz_mixed (by as_aux_lemma=>kernel_rfl) (by as_aux_lemma=>kernel_rfl) (by as_aux_lemma=>kernel_rfl) ?_
   have H:=H.draw
   generalize({w with drawn:=w.drawn+1}:World)=w4 at H⊢
   refine RO.node' [] (by as_aux_lemma=>kernel_rfl) ?_
   refine RO.fin 0 [8,12,16] [(8,.I ((xs.length:Nat):Int)),(12,.I ((xs.length:Nat):Int)),(16,.slice a xs.length c)] (by as_aux_lemma=>kernel_rfl) ?_
   refine(ROB.cons' ?_ (ROB.cons' ?_ ROB.nil'))
   ·
    refine RO.node' [(2,.seq)] (by as_aux_lemma=>kernel_rfl) ?_
    refine uI (((xs.length:Nat):Int)+12) ?_
    refine RO.fin 0 [9,12,16] [(9,.I (((xs.length:Nat):Int)+12)),(12,.I ((xs.length:Nat):Int)),(16,.slice a xs.length c)] (by as_aux_lemma=>kernel_rfl) ?_
    refine(ROB.cons' ?_ (ROB.cons' ?_ ROB.nil'))
    ·
     refine RO.leaf' [(3,.seq),(6,.seq),(7,.seq),(8,.seq),(10,.seq),(11,.seq),(12,.seq)] (by as_aux_lemma=>kernel_rfl) ?_
     refine RW.makeW Sb (κ:=.seq) (d:=some 10) (r:=[(6,.seq),(7,.seq),(8,.seq),(10,.seq),(11,.seq),(12,.seq)]) (T:=23) (e:=5) (by_:=1) (v0:=.int .u8 0) (0#8:BitVec 8) (kl:=.i64) (kc:=.i64) (lv:=0) (cv:=((xs.length:Nat):Int)+12) (by as_aux_lemma=>kernel_rfl) (nofun) (by as_aux_lemma=>kernel_rfl) rfl H 0 (xs.length+12) (by omega) (by omega) (by omega) (by omega) (by omega) (fun _ _=>rfl) ?_
     intro N _ H
     have H:Hp w S [] [] [⟨Sb,5,.slice (some ⟨N,0,none⟩) 0 (xs.length+12),[]⟩] [_] _:=H
     refine RW.pv (κ:=.seq) (d:=some 13) (r:=[(7,.seq),(8,.seq),(10,.seq),(11,.seq),(12,.seq)]) (v:=.int .u32 (IntKind.u32.wrap (((xs.length:Nat):Int)))) (v':=.int .u32 (((BitVec.ofNat 32 xs.length).toNat:Nat):Int)) (by as_aux_lemma=>kernel_rfl) ((wrap_bv32 _).trans (by rw[bv_nat])) ?_
     refine uK (word_spec (S:=Av S w [] (idsOf [] [⟨Sb,5,.slice (some ⟨N,0,none⟩) 0 (xs.length+12),[]⟩])) (BitVec.ofNat 32 xs.length)) ?_
     rintro _ _ z⟨_,f,rfl,A⟩
     have H:=H.addM z A
     refine uKS (sealed_spec (xs:=[]) (bs:=(wordB (BitVec.ofNat 32 xs.length))) (by first|omega|(simp only[List.length_nil,wordB_len,sealF,List.length_append];omega)) (by first|omega|(simp only[List.length_nil,wordB_len,sealF,List.length_append];omega)) ((H.lend (M1:=[]) (W1:=[_])).pick [0] rfl)) ?_
     rintro _ _⟨O,P,rfl,H'⟩
     have H:=H.back (M1:=[]) (W1:=[_]) H'
     have H:Hp w S [] [] [⟨Sb,5,.slice O ((sealF [] (wordB (BitVec.ofNat 32 xs.length))).length) P,(sealF [] (wordB (BitVec.ofNat 32 xs.length)))⟩] [_,_] _:=H
     refine uKS (sealed_spec (xs:=(sealF [] (wordB (BitVec.ofNat 32 xs.length)))) (bs:=xs) (by first|omega|(simp only[List.length_nil,wordB_len,sealF,List.length_append];omega)) (by first|omega|(simp only[List.length_nil,wordB_len,sealF,List.length_append];omega)) ((H.lend (M1:=[]) (W1:=[_])).pick [1] rfl)) ?_
     rintro _ _⟨i,j,rfl,H'⟩
     have H:=H.back (M1:=[]) (W1:=[_]) H'
     have H:Hp w S [] [] [⟨Sb,5,.slice i ((sealF (sealF [] (wordB (BitVec.ofNat 32 xs.length))) xs).length) j,(sealF (sealF [] (wordB (BitVec.ofNat 32 xs.length))) xs)⟩] [_,_] _:=H
     refine uF 2 ?_
     have H:Hp w S [] [] [⟨Sb,5,.slice i (frameF xs).length j,frameF xs⟩] [_,_] _:=H
     have H:=H.pick [1] rfl
     exact uB (b (i,j) _ ⟨H,trivial⟩)
    ·
     refine RO.node' [(6,.seq)] (by as_aux_lemma=>kernel_rfl) ?_
     refine RW.pv (κ:=.seq) (d:=some 13) (r:=[]) (v:=.int .u32 (IntKind.u32.wrap (((xs.length:Nat):Int)))) (v':=.int .u32 (((BitVec.ofNat 32 xs.length).toNat:Nat):Int)) (by as_aux_lemma=>kernel_rfl) ((wrap_bv32 _).trans (by rw[bv_nat])) ?_
     refine RO.fin 0 [9,13,16] [(9,.I (((xs.length:Nat):Int)+12)),(13,.int .u32 (((BitVec.ofNat 32 xs.length).toNat:Nat):Int)),(16,.slice a xs.length c)] (by as_aux_lemma=>kernel_rfl) ?_
     refine(ROB.cons' ?_ (ROB.cons' ?_ ROB.nil'))
     ·
      refine RO.leaf' [(3,.seq),(7,.seq),(8,.seq),(10,.seq),(11,.seq),(12,.seq)] (by as_aux_lemma=>kernel_rfl) ?_
      refine RW.makeW Sb (κ:=.seq) (d:=some 10) (r:=[(7,.seq),(8,.seq),(10,.seq),(11,.seq),(12,.seq)]) (T:=23) (e:=5) (by_:=1) (v0:=.int .u8 0) (0#8:BitVec 8) (kl:=.i64) (kc:=.i64) (lv:=0) (cv:=((xs.length:Nat):Int)+12) (by as_aux_lemma=>kernel_rfl) (nofun) (by as_aux_lemma=>kernel_rfl) rfl H 0 (xs.length+12) (by omega) (by omega) (by omega) (by omega) (by omega) (fun _ _=>rfl) ?_
      intro x _ H
      have H:Hp w S [] [] [⟨Sb,5,.slice (some ⟨x,0,none⟩) 0 (xs.length+12),[]⟩] [_] _:=H
      refine uK (word_spec (S:=Av S w [] (idsOf [] [⟨Sb,5,.slice (some ⟨x,0,none⟩) 0 (xs.length+12),[]⟩])) (BitVec.ofNat 32 xs.length)) ?_
      rintro _ _ B⟨_,_,rfl,C⟩
      have H:=H.addM B C
      refine uKS (sealed_spec (xs:=[]) (bs:=(wordB (BitVec.ofNat 32 xs.length))) (by first|omega|(simp only[List.length_nil,wordB_len,sealF,List.length_append];omega)) (by first|omega|(simp only[List.length_nil,wordB_len,sealF,List.length_append];omega)) ((H.lend (M1:=[]) (W1:=[_])).pick [0] rfl)) ?_
      rintro _ _⟨Q,R,rfl,H'⟩
      have H:=H.back (M1:=[]) (W1:=[_]) H'
      have H:Hp w S [] [] [⟨Sb,5,.slice Q ((sealF [] (wordB (BitVec.ofNat 32 xs.length))).length) R,(sealF [] (wordB (BitVec.ofNat 32 xs.length)))⟩] [_,_] _:=H
      refine uKS (sealed_spec (xs:=(sealF [] (wordB (BitVec.ofNat 32 xs.length)))) (bs:=xs) (by first|omega|(simp only[List.length_nil,wordB_len,sealF,List.length_append];omega)) (by first|omega|(simp only[List.length_nil,wordB_len,sealF,List.length_append];omega)) ((H.lend (M1:=[]) (W1:=[_])).pick [1] rfl)) ?_
      rintro _ _⟨k,l,rfl,H'⟩
      have H:=H.back (M1:=[]) (W1:=[_]) H'
      have H:Hp w S [] [] [⟨Sb,5,.slice k ((sealF (sealF [] (wordB (BitVec.ofNat 32 xs.length))) xs).length) l,(sealF (sealF [] (wordB (BitVec.ofNat 32 xs.length))) xs)⟩] [_,_] _:=H
      refine uF 2 ?_
      have H:Hp w S [] [] [⟨Sb,5,.slice k (frameF xs).length l,frameF xs⟩] [_,_] _:=H
      have H:=H.pick [1] rfl
      exact uB (b (k,l) _ ⟨H,trivial⟩)
     ·
      refine RO.leaf' [(7,.seq),(3,.seq),(8,.seq),(10,.seq),(11,.seq),(12,.seq)] (by as_aux_lemma=>kernel_rfl) ?_
      refine uK (word_spec (S:=Av S w [] (idsOf [] [])) (BitVec.ofNat 32 xs.length)) ?_
      rintro _ _ D⟨_,_,rfl,E⟩
      have H:=H.addM D E
      refine RW.makeW Sb (κ:=.seq) (d:=some 10) (r:=[(8,.seq),(10,.seq),(11,.seq),(12,.seq)]) (T:=23) (e:=5) (by_:=1) (v0:=.int .u8 0) (0#8:BitVec 8) (kl:=.i64) (kc:=.i64) (lv:=0) (cv:=((xs.length:Nat):Int)+12) (by as_aux_lemma=>kernel_rfl) (nofun) (by as_aux_lemma=>kernel_rfl) rfl H 0 (xs.length+12) (by omega) (by omega) (by omega) (by omega) (by omega) (fun _ _=>rfl) ?_
      intro U _ H
      have H:Hp w S [] [] [⟨Sb,5,.slice (some ⟨U,0,none⟩) 0 (xs.length+12),[]⟩] [_,_] _:=H
      refine uKS (sealed_spec (xs:=[]) (bs:=(wordB (BitVec.ofNat 32 xs.length))) (by first|omega|(simp only[List.length_nil,wordB_len,sealF,List.length_append];omega)) (by first|omega|(simp only[List.length_nil,wordB_len,sealF,List.length_append];omega)) ((H.lend (M1:=[]) (W1:=[_])).pick [0] rfl)) ?_
      rintro _ _⟨V,W,rfl,H'⟩
      have H:=H.back (M1:=[]) (W1:=[_]) H'
      have H:Hp w S [] [] [⟨Sb,5,.slice V ((sealF [] (wordB (BitVec.ofNat 32 xs.length))).length) W,(sealF [] (wordB (BitVec.ofNat 32 xs.length)))⟩] [_,_] _:=H
      refine uKS (sealed_spec (xs:=(sealF [] (wordB (BitVec.ofNat 32 xs.length)))) (bs:=xs) (by first|omega|(simp only[List.length_nil,wordB_len,sealF,List.length_append];omega)) (by first|omega|(simp only[List.length_nil,wordB_len,sealF,List.length_append];omega)) ((H.lend (M1:=[]) (W1:=[_])).pick [1] rfl)) ?_
      rintro _ _⟨m,n,rfl,H'⟩
      have H:=H.back (M1:=[]) (W1:=[_]) H'
      have H:Hp w S [] [] [⟨Sb,5,.slice m ((sealF (sealF [] (wordB (BitVec.ofNat 32 xs.length))) xs).length) n,(sealF (sealF [] (wordB (BitVec.ofNat 32 xs.length))) xs)⟩] [_,_] _:=H
      refine uF 2 ?_
      have H:Hp w S [] [] [⟨Sb,5,.slice m (frameF xs).length n,frameF xs⟩] [_,_] _:=H
      have H:=H.pick [1] rfl
      exact uB (b (m,n) _ ⟨H,trivial⟩)
   ·
    refine RO.node' [(6,.seq)] (by as_aux_lemma=>kernel_rfl) ?_
    refine RW.pv (κ:=.seq) (d:=some 13) (r:=[]) (v:=.int .u32 (IntKind.u32.wrap (((xs.length:Nat):Int)))) (v':=.int .u32 (((BitVec.ofNat 32 xs.length).toNat:Nat):Int)) (by as_aux_lemma=>kernel_rfl) ((wrap_bv32 _).trans (by rw[bv_nat])) ?_
    refine RO.fin 0 [8,13,16] [(8,.I ((xs.length:Nat):Int)),(13,.int .u32 (((BitVec.ofNat 32 xs.length).toNat:Nat):Int)),(16,.slice a xs.length c)] (by as_aux_lemma=>kernel_rfl) ?_
    refine(ROB.cons' ?_ (ROB.cons' ?_ ROB.nil'))
    ·
     refine RO.node' [(2,.seq)] (by as_aux_lemma=>kernel_rfl) ?_
     refine uI (((xs.length:Nat):Int)+12) ?_
     refine RO.fin 0 [9,13,16] [(9,.I (((xs.length:Nat):Int)+12)),(13,.int .u32 (((BitVec.ofNat 32 xs.length).toNat:Nat):Int)),(16,.slice a xs.length c)] (by as_aux_lemma=>kernel_rfl) ?_
     refine(ROB.cons' ?_ (ROB.cons' ?_ ROB.nil'))
     ·
      refine RO.leaf' [(3,.seq),(7,.seq),(8,.seq),(10,.seq),(11,.seq),(12,.seq)] (by as_aux_lemma=>kernel_rfl) ?_
      refine RW.makeW Sb (κ:=.seq) (d:=some 10) (r:=[(7,.seq),(8,.seq),(10,.seq),(11,.seq),(12,.seq)]) (T:=23) (e:=5) (by_:=1) (v0:=.int .u8 0) (0#8:BitVec 8) (kl:=.i64) (kc:=.i64) (lv:=0) (cv:=((xs.length:Nat):Int)+12) (by as_aux_lemma=>kernel_rfl) (nofun) (by as_aux_lemma=>kernel_rfl) rfl H 0 (xs.length+12) (by omega) (by omega) (by omega) (by omega) (by omega) (fun _ _=>rfl) ?_
      intro y _ H
      have H:Hp w S [] [] [⟨Sb,5,.slice (some ⟨y,0,none⟩) 0 (xs.length+12),[]⟩] [_] _:=H
      refine uK (word_spec (S:=Av S w [] (idsOf [] [⟨Sb,5,.slice (some ⟨y,0,none⟩) 0 (xs.length+12),[]⟩])) (BitVec.ofNat 32 xs.length)) ?_
      rintro _ _ F⟨_,_,rfl,G⟩
      have H:=H.addM F G
      refine uKS (sealed_spec (xs:=[]) (bs:=(wordB (BitVec.ofNat 32 xs.length))) (by first|omega|(simp only[List.length_nil,wordB_len,sealF,List.length_append];omega)) (by first|omega|(simp only[List.length_nil,wordB_len,sealF,List.length_append];omega)) ((H.lend (M1:=[]) (W1:=[_])).pick [0] rfl)) ?_
      rintro _ _⟨X,Y,rfl,H'⟩
      have H:=H.back (M1:=[]) (W1:=[_]) H'
      have H:Hp w S [] [] [⟨Sb,5,.slice X ((sealF [] (wordB (BitVec.ofNat 32 xs.length))).length) Y,(sealF [] (wordB (BitVec.ofNat 32 xs.length)))⟩] [_,_] _:=H
      refine uKS (sealed_spec (xs:=(sealF [] (wordB (BitVec.ofNat 32 xs.length)))) (bs:=xs) (by first|omega|(simp only[List.length_nil,wordB_len,sealF,List.length_append];omega)) (by first|omega|(simp only[List.length_nil,wordB_len,sealF,List.length_append];omega)) ((H.lend (M1:=[]) (W1:=[_])).pick [1] rfl)) ?_
      rintro _ _⟨o,p,rfl,H'⟩
      have H:=H.back (M1:=[]) (W1:=[_]) H'
      have H:Hp w S [] [] [⟨Sb,5,.slice o ((sealF (sealF [] (wordB (BitVec.ofNat 32 xs.length))) xs).length) p,(sealF (sealF [] (wordB (BitVec.ofNat 32 xs.length))) xs)⟩] [_,_] _:=H
      refine uF 2 ?_
      have H:Hp w S [] [] [⟨Sb,5,.slice o (frameF xs).length p,frameF xs⟩] [_,_] _:=H
      have H:=H.pick [1] rfl
      exact uB (b (o,p) _ ⟨H,trivial⟩)
     ·
      refine RO.leaf' [(7,.seq),(3,.seq),(8,.seq),(10,.seq),(11,.seq),(12,.seq)] (by as_aux_lemma=>kernel_rfl) ?_
      refine uK (word_spec (S:=Av S w [] (idsOf [] [])) (BitVec.ofNat 32 xs.length)) ?_
      rintro _ _ J⟨_,_,rfl,K⟩
      have H:=H.addM J K
      refine RW.makeW Sb (κ:=.seq) (d:=some 10) (r:=[(8,.seq),(10,.seq),(11,.seq),(12,.seq)]) (T:=23) (e:=5) (by_:=1) (v0:=.int .u8 0) (0#8:BitVec 8) (kl:=.i64) (kc:=.i64) (lv:=0) (cv:=((xs.length:Nat):Int)+12) (by as_aux_lemma=>kernel_rfl) (nofun) (by as_aux_lemma=>kernel_rfl) rfl H 0 (xs.length+12) (by omega) (by omega) (by omega) (by omega) (by omega) (fun _ _=>rfl) ?_
      intro Z _ H
      have H:Hp w S [] [] [⟨Sb,5,.slice (some ⟨Z,0,none⟩) 0 (xs.length+12),[]⟩] [_,_] _:=H
      refine uKS (sealed_spec (xs:=[]) (bs:=(wordB (BitVec.ofNat 32 xs.length))) (by first|omega|(simp only[List.length_nil,wordB_len,sealF,List.length_append];omega)) (by first|omega|(simp only[List.length_nil,wordB_len,sealF,List.length_append];omega)) ((H.lend (M1:=[]) (W1:=[_])).pick [0] rfl)) ?_
      rintro _ _⟨a0,b0,rfl,H'⟩
      have H:=H.back (M1:=[]) (W1:=[_]) H'
      have H:Hp w S [] [] [⟨Sb,5,.slice a0 ((sealF [] (wordB (BitVec.ofNat 32 xs.length))).length) b0,(sealF [] (wordB (BitVec.ofNat 32 xs.length)))⟩] [_,_] _:=H
      refine uKS (sealed_spec (xs:=(sealF [] (wordB (BitVec.ofNat 32 xs.length)))) (bs:=xs) (by first|omega|(simp only[List.length_nil,wordB_len,sealF,List.length_append];omega)) (by first|omega|(simp only[List.length_nil,wordB_len,sealF,List.length_append];omega)) ((H.lend (M1:=[]) (W1:=[_])).pick [1] rfl)) ?_
      rintro _ _⟨q,s,rfl,H'⟩
      have H:=H.back (M1:=[]) (W1:=[_]) H'
      have H:Hp w S [] [] [⟨Sb,5,.slice q ((sealF (sealF [] (wordB (BitVec.ofNat 32 xs.length))) xs).length) s,(sealF (sealF [] (wordB (BitVec.ofNat 32 xs.length))) xs)⟩] [_,_] _:=H
      refine uF 2 ?_
      have H:Hp w S [] [] [⟨Sb,5,.slice q (frameF xs).length s,frameF xs⟩] [_,_] _:=H
      have H:=H.pick [1] rfl
      exact uB (b (q,s) _ ⟨H,trivial⟩)
    ·
     refine RO.leaf' [(7,.seq),(2,.seq),(3,.seq),(8,.seq),(10,.seq),(11,.seq),(12,.seq)] (by as_aux_lemma=>kernel_rfl) ?_
     refine uK (word_spec (S:=Av S w [] (idsOf [] [])) (BitVec.ofNat 32 xs.length)) ?_
     rintro _ _ L⟨_,_,rfl,M⟩
     have H:=H.addM L M
     refine uI (((xs.length:Nat):Int)+12) ?_
     refine RW.makeW Sb (κ:=.seq) (d:=some 10) (r:=[(8,.seq),(10,.seq),(11,.seq),(12,.seq)]) (T:=23) (e:=5) (by_:=1) (v0:=.int .u8 0) (0#8:BitVec 8) (kl:=.i64) (kc:=.i64) (lv:=0) (cv:=((xs.length:Nat):Int)+12) (by as_aux_lemma=>kernel_rfl) (nofun) (by as_aux_lemma=>kernel_rfl) rfl H 0 (xs.length+12) (by omega) (by omega) (by omega) (by omega) (by omega) (fun _ _=>rfl) ?_
     intro c0 _ H
     have H:Hp w S [] [] [⟨Sb,5,.slice (some ⟨c0,0,none⟩) 0 (xs.length+12),[]⟩] [_,_] _:=H
     refine uKS (sealed_spec (xs:=[]) (bs:=(wordB (BitVec.ofNat 32 xs.length))) (by first|omega|(simp only[List.length_nil,wordB_len,sealF,List.length_append];omega)) (by first|omega|(simp only[List.length_nil,wordB_len,sealF,List.length_append];omega)) ((H.lend (M1:=[]) (W1:=[_])).pick [0] rfl)) ?_
     rintro _ _⟨d0,e0,rfl,H'⟩
     have H:=H.back (M1:=[]) (W1:=[_]) H'
     have H:Hp w S [] [] [⟨Sb,5,.slice d0 ((sealF [] (wordB (BitVec.ofNat 32 xs.length))).length) e0,(sealF [] (wordB (BitVec.ofNat 32 xs.length)))⟩] [_,_] _:=H
     refine uKS (sealed_spec (xs:=(sealF [] (wordB (BitVec.ofNat 32 xs.length)))) (bs:=xs) (by first|omega|(simp only[List.length_nil,wordB_len,sealF,List.length_append];omega)) (by first|omega|(simp only[List.length_nil,wordB_len,sealF,List.length_append];omega)) ((H.lend (M1:=[]) (W1:=[_])).pick [1] rfl)) ?_
     rintro _ _⟨t,u,rfl,H'⟩
     have H:=H.back (M1:=[]) (W1:=[_]) H'
     have H:Hp w S [] [] [⟨Sb,5,.slice t ((sealF (sealF [] (wordB (BitVec.ofNat 32 xs.length))) xs).length) u,(sealF (sealF [] (wordB (BitVec.ofNat 32 xs.length))) xs)⟩] [_,_] _:=H
     refine uF 2 ?_
     have H:Hp w S [] [] [⟨Sb,5,.slice t (frameF xs).length u,frameF xs⟩] [_,_] _:=H
     have H:=H.pick [1] rfl
     exact uB (b (t,u) _ ⟨H,trivial⟩)
  ·
   rintro⟨g,f⟩_⟨H,-⟩
   refine qT (.tuple #[.slice g (frameF xs).length f,.I 0]) Tryz.func57 ?_
   exact⟨_,rfl,H.done,_,_,rfl,H.pick [] rfl⟩
end Go.Proofs.YtdnibpclkhenmaaGreatDoor

namespace Go.Proofs.YtdnibpclkhenmaaGreatDoor
open Go.BX
theorem getD_some{l:List (BitVec 8)}{i:Nat}(h:i<l.length):l[i]?=some (l.getD i 0#8):=by
 rw[List.getD_eq_getElem?_getD,List.getElem?_eq_getElem h];rfl
theorem wword_spec{S:Nat→Prop}{w:World}{xs:List (BitVec 8)}{a:Option Addr}{c:Nat}(h:SB.rep S w [.slice a xs.length c] xs)(h4:4≤xs.length):
 Calls Tryz.prog 202 #[.slice a xs.length c] w (Ret fun v w'=>Ext w w'∧v=.int .u32 (((wordAt xs).toNat:Nat):Int)):=by
 refine uS1 Tryz.func202 ?_
 have H:=Hp.startF (.rp h .nil)
 refine uR 3 [.c [1,0],.c [2]] ?_
 refine WK.draw1 23 (qs [0,1,2,3,4,5,6,7,8,9,10,11,12,13,14,15,16,17,18,19,20,21,22]) (qs [0,1,2,3,4,5,6,7,8,9,10,11,12,13,14,15,16,17,18,19,20,21,22]) Tryz_mixed (by as_aux_lemma=>kernel_rfl) (by as_aux_lemma=>kernel_rfl) (by as_aux_lemma=>kernel_rfl) ?_
 have H:=H.draw
 generalize({w with drawn:=w.drawn+1}:World)=m at H⊢
 refine uP 1 ?_
 have k:0<xs.length:=by omega
 refine uX 23 0 H 0 rfl 0 (by omega) (getD_some (by omega)) ?_
 intro _ _ _ g H
 obtain rfl:=g
 refine uV 5 0 (H.fc 0 rfl) ?_
 refine RW.pv (κ:=.qui) (d:=some 6) (r:=(qs [4,5,6,7,8,9,10,11,12,13,14,15,16,17,18,19,20,21,22])) (v:=.int .u32 (IntKind.u32.wrap ((((xs.getD 0 0#8).toNat:Nat):Int)))) (v':=.int .u32 ((((xs.getD 0 0#8).setWidth 32).toNat:Nat):Int)) (by as_aux_lemma=>kernel_rfl) (bv_cv8_32 _) ?_
 refine uP 1 ?_
 have l:1<xs.length:=by omega
 refine uX 23 1 H 1 rfl 1 (by omega) (getD_some (by omega)) ?_
 intro _ _ _ b H
 obtain rfl:=b
 refine uV 5 0 (H.fc 0 rfl) ?_
 refine RW.pv (κ:=.qui) (d:=some 10) (r:=(qs [8,9,10,11,12,13,14,15,16,17,18,19,20,21,22])) (v:=.int .u32 (IntKind.u32.wrap ((((xs.getD 1 0#8).toNat:Nat):Int)))) (v':=.int .u32 ((((xs.getD 1 0#8).setWidth 32).toNat:Nat):Int)) (by as_aux_lemma=>kernel_rfl) (bv_cv8_32 _) ?_
 refine RW.pv (κ:=.qui) (d:=some 11) (r:=(qs [9,10,11,12,13,14,15,16,17,18,19,20,21,22])) (v:=.int .u32 (IntKind.u32.wrap (((((xs.getD 1 0#8).setWidth 32).toNat:Nat):Int)*2^8))) (v':=.int .u32 ((((((xs.getD 1 0#8).setWidth 32)<<<8).toNat:Nat):Int))) (by as_aux_lemma=>kernel_rfl) (bv_shl32 8 (bvi _)) ?_
 refine RW.pv (κ:=.qui) (d:=some 12) (r:=(qs [10,11,12,13,14,15,16,17,18,19,20,21,22])) (v:=.int .u32 (IntKind.u32.wrap ((BitVec.ofInt 32 ((((xs.getD 0 0#8).setWidth 32).toNat:Nat):Int)|||BitVec.ofInt 32 (((((xs.getD 1 0#8).setWidth 32)<<<8).toNat:Nat):Int)).toNat:Nat))) (v':=.int .u32 ((((((xs.getD 0 0#8).setWidth 32)|||(((xs.getD 1 0#8).setWidth 32)<<<8)).toNat:Nat):Int))) (by as_aux_lemma=>kernel_rfl) (bv_or32 (bvi _) (bvi _)) ?_
 refine uP 1 ?_
 have i:2<xs.length:=by omega
 refine uX 23 2 H 2 rfl 2 (by omega) (getD_some (by omega)) ?_
 intro _ _ _ e H
 obtain rfl:=e
 refine uV 5 0 (H.fc 0 rfl) ?_
 refine RW.pv (κ:=.qui) (d:=some 16) (r:=(qs [14,15,16,17,18,19,20,21,22])) (v:=.int .u32 (IntKind.u32.wrap ((((xs.getD 2 0#8).toNat:Nat):Int)))) (v':=.int .u32 ((((xs.getD 2 0#8).setWidth 32).toNat:Nat):Int)) (by as_aux_lemma=>kernel_rfl) (bv_cv8_32 _) ?_
 refine RW.pv (κ:=.qui) (d:=some 17) (r:=(qs [15,16,17,18,19,20,21,22])) (v:=.int .u32 (IntKind.u32.wrap (((((xs.getD 2 0#8).setWidth 32).toNat:Nat):Int)*2^16))) (v':=.int .u32 ((((((xs.getD 2 0#8).setWidth 32)<<<16).toNat:Nat):Int))) (by as_aux_lemma=>kernel_rfl) (bv_shl32 16 (bvi _)) ?_
 refine RW.pv (κ:=.qui) (d:=some 18) (r:=(qs [16,17,18,19,20,21,22])) (v:=.int .u32 (IntKind.u32.wrap ((BitVec.ofInt 32 (((((xs.getD 0 0#8).setWidth 32)|||(((xs.getD 1 0#8).setWidth 32)<<<8)).toNat:Nat):Int)|||BitVec.ofInt 32 (((((xs.getD 2 0#8).setWidth 32)<<<16).toNat:Nat):Int)).toNat:Nat))) (v':=.int .u32 (((((((xs.getD 0 0#8).setWidth 32)|||(((xs.getD 1 0#8).setWidth 32)<<<8))|||(((xs.getD 2 0#8).setWidth 32)<<<16)).toNat:Nat):Int))) (by as_aux_lemma=>kernel_rfl) (bv_or32 (bvi _) (bvi _)) ?_
 refine uP 1 ?_
 have j:3<xs.length:=by omega
 refine uX 23 3 H 3 rfl 3 (by omega) (getD_some (by omega)) ?_
 intro _ _ _ f H
 obtain rfl:=f
 refine uV 5 0 (H.fc 0 rfl) ?_
 refine RW.pv (κ:=.qui) (d:=some 22) (r:=(qs [20,21,22])) (v:=.int .u32 (IntKind.u32.wrap ((((xs.getD 3 0#8).toNat:Nat):Int)))) (v':=.int .u32 ((((xs.getD 3 0#8).setWidth 32).toNat:Nat):Int)) (by as_aux_lemma=>kernel_rfl) (bv_cv8_32 _) ?_
 refine RW.pv (κ:=.qui) (d:=some 23) (r:=(qs [21,22])) (v:=.int .u32 (IntKind.u32.wrap (((((xs.getD 3 0#8).setWidth 32).toNat:Nat):Int)*2^24))) (v':=.int .u32 ((((((xs.getD 3 0#8).setWidth 32)<<<24).toNat:Nat):Int))) (by as_aux_lemma=>kernel_rfl) (bv_shl32 24 (bvi _)) ?_
 refine RW.pv (κ:=.qui) (d:=some 24) (r:=[(22,.qui)]) (v:=.int .u32 (IntKind.u32.wrap ((BitVec.ofInt 32 ((((((xs.getD 0 0#8).setWidth 32)|||(((xs.getD 1 0#8).setWidth 32)<<<8))|||(((xs.getD 2 0#8).setWidth 32)<<<16)).toNat:Nat):Int)|||BitVec.ofInt 32 (((((xs.getD 3 0#8).setWidth 32)<<<24).toNat:Nat):Int)).toNat:Nat))) (v':=.int .u32 ((((((((xs.getD 0 0#8).setWidth 32)|||(((xs.getD 1 0#8).setWidth 32)<<<8))|||(((xs.getD 2 0#8).setWidth 32)<<<16))|||(((xs.getD 3 0#8).setWidth 32)<<<24)).toNat:Nat):Int))) (by as_aux_lemma=>kernel_rfl) (bv_or32 (bvi _) (bvi _)) ?_
 refine uF 1 ?_
 refine qT (.int .u32 (((((((xs.getD 0 0#8).setWidth 32)|||(((xs.getD 1 0#8).setWidth 32)<<<8))|||(((xs.getD 2 0#8).setWidth 32)<<<16))|||(((xs.getD 3 0#8).setWidth 32)<<<24)).toNat:Nat):Int)) Tryz.func202 ?_
 exact⟨_,rfl,H.done,rfl⟩
theorem crcN{S:Nat→Prop}{w:World}{xs:List (BitVec 8)}{a:Option Addr}{c n:Nat}(h:SB.rep S w [.slice a n c] xs):Calls Tryz.prog 88 #[.slice a n c] w (Ret fun v w'=>Ext w w'∧v=.int .u32 (((crcF xs).toNat:Nat):Int)):=by
 obtain⟨rfl,-⟩:=Shape.elems_of h
 exact crc_spec h
theorem wwordN{S:Nat→Prop}{w:World}{xs:List (BitVec 8)}{a:Option Addr}{c n:Nat}(h:SB.rep S w [.slice a n c] xs)(h4:4≤xs.length):Calls Tryz.prog 202 #[.slice a n c] w (Ret fun v w'=>Ext w w'∧v=.int .u32 (((wordAt xs).toNat:Nat):Int)):=by
 obtain⟨rfl,-⟩:=Shape.elems_of h
 exact wword_spec h h4
theorem opened_spec{S:Nat→Prop}{w:World}{xs:List (BitVec 8)}{a:Option Addr}{c:Nat}(h:SB.rep S w [.slice a xs.length c] xs)(n:Nat):
 Calls Tryz.prog 201 #[.slice a xs.length c,.I n] w (Ret fun v w'=>Ext w w'∧((∃e:Int,e≠0∧v=.tuple #[.slice none 0 0,.slice none 0 0,.iface 322 (.I e)]∧openF xs n=none)∨∃(a1:Option Addr)(c1:Nat)(a2:Option Addr)(c2:Nat)(x r:List (BitVec 8)),openF xs n=some (x,r)∧v=.tuple #[.slice a1 n c1,.slice a2 r.length c2,.nilIface]∧x.length=n∧SB.rep (Nw S w) w' [.slice a1 n c1] x∧SB.rep (Nw S w) w' [.slice a2 r.length c2] r)):=by
 have hlen:=Shape.slice_len h
 refine uS1 Tryz.func201 ?_
 have H:=Hp.startF (.rp h .nil)
 refine uR 4 [.c [1,0,0],.c [1,0,1],.c [2]] ?_
 refine qG (sq 0 5) ?_
 refine uP 2 ?_
 refine uI (((xs.length:Nat):Int)-4) ?_
 refine uF 2 ?_
 refine qD ((((xs.length:Nat):Int)-4:Int)<(n:Int)) (fun m=>?_) (fun m=>?_)
 ·
  refine uR 2 [.c [1,0,1,0,1],.c [2]] ?_
  refine qT (.tuple #[.slice none 0 0,.slice none 0 0,.iface 322 (.I 40)]) Tryz.func201 ?_
  exact⟨_,rfl,H.done,.inl ⟨_,by decide,rfl,by unfold openF;rw[if_pos (by omega)]⟩⟩
 ·
  refine uR 2 [.c [2,0],.c [3]] ?_
  refine WK.draw1 9 (qs [0,1,2,3,4,5,6,7,8]) (qs [0,1,2,3,4,5,6,7,8]) Tryz_mixed (by as_aux_lemma=>kernel_rfl) (by as_aux_lemma=>kernel_rfl) (by as_aux_lemma=>kernel_rfl) ?_
  have H:=H.draw
  generalize({w with drawn:=w.drawn+1}:World)=o at H⊢
  refine uP 3 ?_
  refine RW.clipAt (κ:=.qui) (d:=some 18) (r:=(qs [4,5,6,7,8])) (T:=23) (e:=5) (sh:=Sb) (a:=a) (len:=xs.length) (cap:=c) (k:=n) (k1:=.i64) (t1:=(n:Int)) (k2:=.i64) (t2:=(n:Int)) (by as_aux_lemma=>kernel_rfl) (by as_aux_lemma=>kernel_rfl) H 0 rfl (by omega) (by omega) (by omega) ?_
  intro H
  refine uP 2 ?_
  refine RW.slice (κ:=.qui) (d:=some 21) (r:=(qs [7,8])) (T:=23) (e:=5) (sh:=Sb) (a:=a) (len:=xs.length) (cap:=c) (zs:=(xs.drop n)) (lv:=(some (.I n))) (hv:=none) (by as_aux_lemma=>kernel_rfl) (by as_aux_lemma=>kernel_rfl) H 1 rfl n xs.length (.mk (by omega)) .nil (by omega) (by omega) (by rw[List.take_of_length_le (Nat.le_refl _)]) ?_
  intro b H
  refine uF 2 ?_
  refine uR 2 [.c [3,0,0],.c [3,0,1],.c [4]] ?_
  refine qG (sq 0 5) ?_
  refine uP 1 ?_
  refine uK (wwordN (xs:=(xs.drop n)) (H.rp 0 rfl) (by rw[List.length_drop];omega)) ?_
  rintro _ _ f rfl
  have H:=H.ext f
  refine qP 1 (sq 3 5) [(7,.slice a n n),(8,.slice b (xs.drop n).length (c-n)),(23,.int .u32 (((wordAt (xs.drop n)).toNat:Nat):Int)),(24,.slice a n n)] ?_
  refine uK (crcN (xs:=(xs.take n)) (H.rp 1 rfl)) ?_
  rintro _ g i rfl
  have H:=H.ext i
  refine uF 1 ?_
  refine qN (((wordAt (xs.drop n)).toNat:Nat):Int) (((crcF (xs.take n)).toNat:Nat):Int) (fun j=>?_) (fun j=>?_)
  ·
   have hne:=j
   refine uR 2 [.c [3,0,1,0,1],.c [4]] ?_
   refine qT (.tuple #[.slice none 0 0,.slice none 0 0,.iface 322 (.I 61)]) Tryz.func201 ?_
   exact⟨_,rfl,H.done,.inl ⟨_,by decide,rfl,by unfold openF;rw[if_neg (by omega),if_neg (fun q=>hne (by rw[q]))]⟩⟩
  ·
   refine uR 2 [.c [4,0],.c [5]] ?_
   refine WK.draw1 6 (qs [0,1,2,3,4,5]) (qs [0,1,2,3,4,5]) Tryz_mixed (by as_aux_lemma=>kernel_rfl) (by as_aux_lemma=>kernel_rfl) (by as_aux_lemma=>kernel_rfl) ?_
   have H:=H.draw
   generalize({g with drawn:=g.drawn+1}:World)=p at H⊢
   refine uP 2 ?_
   refine RW.slice (κ:=.qui) (d:=some 30) (r:=(qs [3,4,5])) (T:=23) (e:=5) (sh:=Sb) (a:=b) (len:=(xs.drop n).length) (cap:=(c-n)) (zs:=((xs.drop n).drop 4)) (lv:=(some (.I 4))) (hv:=none) (by as_aux_lemma=>kernel_rfl) (by as_aux_lemma=>kernel_rfl) H 0 rfl 4 (xs.drop n).length (.mk (by omega)) .nil (by rw[List.length_drop];omega) (by rw[List.length_drop];omega) (by rw[List.take_of_length_le (Nat.le_refl _)]) ?_
   intro l H
   refine uF 3 ?_
   refine qT (.tuple #[.slice a n n,.slice l (((xs.drop n).drop 4).length) ((c-n)-4),.nilIface]) Tryz.func201 ?_
   exact⟨_,rfl,H.done,.inr ⟨_,_,_,_,xs.take n,((xs.drop n).drop 4),by unfold openF;rw[if_neg (by omega),if_pos (BitVec.eq_of_toNat_eq (by omega)),List.drop_drop],rfl,by rw[List.length_take];omega,H.out (H.rp 2 rfl),H.out (H.rp 0 rfl)⟩⟩
theorem wnext_spec{S:Nat→Prop}{w:World}{xs:List (BitVec 8)}{a:Option Addr}{c:Nat}(h:SB.rep S w [.slice a xs.length c] xs):
 Calls Tryz.prog 160 #[.slice a xs.length c] w (Ret fun v w'=>Ext w w'∧((∃e:Int,e≠0∧v=.tuple #[.slice none 0 0,.iface 322 (.I e)]∧nextF xs=none)∨∃(a':Option Addr)(c':Nat)(b:List (BitVec 8)),nextF xs=some b∧v=.tuple #[.slice a' b.length c',.nilIface]∧SB.rep (Nw S w) w' [.slice a' b.length c'] b)):=by
 have hlen:=Shape.slice_len h
 refine uS1 Tryz.func160 ?_
 have H:=Hp.startF (.rp h .nil)
 refine uR 3 [.c [1,0],.c [2]] ?_
 refine qG (sq 0 9) ?_
 refine uP 1 ?_
 refine uK (opened_spec (xs:=xs) (H.rp 0 rfl) 4) ?_
 rintro _ _ l(⟨L,B,rfl,g⟩|⟨M,N,C,D,f,j,g,rfl,_,s,t⟩)
 ·
  have H:=H.ext l
  refine uF 7 ?_
  refine uR 6 [.c [2,0,1,0,1],.c [3]] ?_
  refine qT (.tuple #[.slice none 0 0,.iface 322 (.I L)]) Tryz.func160 ?_
  exact⟨_,rfl,H.done,.inl ⟨_,B,rfl,by unfold nextF;rw[g]⟩⟩
 ·
  have H:=H.addN2 l (F:=Rp SB [.slice M 4 N] f) (F2:=Rp SB [.slice C j.length D] j) s t
  refine uF 7 ?_
  refine uR 6 [.c [3,0],.c [4]] ?_
  refine qG (sq 0 3) ?_
  refine uP 1 ?_
  refine uK (wwordN (xs:=f) (H.rp 0 rfl) (by omega)) ?_
  rintro _ _ u rfl
  have H:=H.ext u
  refine uF 1 ?_
  refine uR 3 [.c [4,0,1],.c [5]] ?_
  refine qD (((((wordAt f).toNat:Nat):Int):Int)>4194304) (fun E=>?_) (fun E=>?_)
  ·
   refine uR 2 [.c [4,0,1,0,1],.c [5]] ?_
   refine qT (.tuple #[.slice none 0 0,.iface 322 (.I 60)]) Tryz.func160 ?_
   exact⟨_,rfl,H.done,.inl ⟨_,by decide,rfl,by unfold nextF;rw[g];simp only;rw[if_pos (by omega)]⟩⟩
  ·
   refine qR 2 [.c [5,0],.c [6]] [(5,.slice C j.length D),(7,.int .u32 (((wordAt f).toNat:Nat):Int))] ?_
   refine qG (sq 0 11) ?_
   refine uP 2 ?_
   refine RW.pv (κ:=.seq) (d:=some 27) (r:=(sq 3 11)) (v:=.I (IntKind.i64.wrap ((((wordAt f).toNat:Nat):Int)))) (v':=.I (((wordAt f).toNat:Nat):Int)) (by as_aux_lemma=>kernel_rfl) (bv_i6432 _ (by have:=(wordAt f).isLt;omega)) ?_
   refine uK (opened_spec (xs:=j) (H.rp 1 rfl) ((wordAt f).toNat)) ?_
   rintro _ _ k(⟨G,x,rfl,i⟩|⟨m,n,J,K,o,p,i,rfl,y,z,A⟩)
   ·
    have H:=H.ext k
    refine uF 7 ?_
    refine uR 2 [.c [7]] ?_
    refine qT (.tuple #[.slice none 0 0,.iface 322 (.I G)]) Tryz.func160 ?_
    exact⟨_,rfl,H.done,.inl ⟨_,x,rfl,by unfold nextF;rw[g];simp only;rw[if_neg (by omega),i];rfl⟩⟩
   ·
    have H:=H.addN2 k (F:=Rp SB [.slice m ((wordAt f).toNat) n] o) (F2:=Rp SB [.slice J p.length K] p) z A
    refine uF 7 ?_
    refine uR 2 [.c [7]] ?_
    refine qT (.tuple #[.slice m ((wordAt f).toNat) n,.nilIface]) Tryz.func160 ?_
    have q:=y
    rw[←q]at H
    exact⟨_,rfl,H.done,.inr ⟨_,_,o,by unfold nextF;rw[g];simp only;rw[if_neg (by omega),i];rfl,by rw[q],H.out (H.rp 0 rfl)⟩⟩
end Go.Proofs.YtdnibpclkhenmaaGreatDoor
