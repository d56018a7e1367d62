import Derived.Test.YtcafjhnjhhicdaaGreatDoorSC0
namespace Go.Proofs.YtcafjhnjhhicdaaGreatDoor
open Go.BX
open Go.RowKit Go.Shelf Go.Maps Go.Sort
theorem nib_ix:∀n:Fin 16,Lib.indexByte digS.data.toList (nib n.val)=(n.val:Int):=by decide
theorem hexat_n{w:World}{n:Nat}(h:n<16):Calls Tryz.prog 68 #[.string digS,.int .u8 (((nib n).toNat:Nat):Int)] w (Ret fun v w'=>Ext w w'∧v=.I n):=by
 refine hexat_c ?_
 rw[Int.toNat_natCast,show(nib n).toNat.toUInt8=nib n from UInt8.ofNat_toNat]
 exact nib_ix ⟨n,h⟩
def hexS(xs:List (BitVec 8)):ByteArray:=⟨(hexL xs).toArray⟩
theorem hexS_size(xs:List (BitVec 8)):(hexS xs).size=2*xs.length:=by
 show(hexL xs).toArray.size=_
 rw[List.size_toArray,hexL_len]
theorem hexB_some{xs:List (BitVec 8)}(h:xs.length≠0):hexB xs=hexS xs:=by
 unfold hexB
 rw[if_neg h];rfl
theorem hexS_ne{xs:List (BitVec 8)}(h:xs.length≠0)(e:(hexS xs).toList=(⟨#[]⟩:ByteArray).toList):False:=by
 have h1:=congrArg ByteArray.size (toList_inj e)
 rw[hexS_size]at h1
 have h2:(⟨#[]⟩:ByteArray).size=0:=rfl
 omega
theorem hex_ne{xs:List (BitVec 8)}(h:xs.length≠0)(e:(hexS xs).toList=(⟨#[45]⟩:ByteArray).toList):False:=by
 have h1:=congrArg ByteArray.size (toList_inj e)
 rw[hexS_size]at h1
 have h2:(⟨#[45]⟩:ByteArray).size=1:=rfl
 omega
theorem hexB_none{xs:List (BitVec 8)}(h:xs.length=0):hexB xs=(⟨#[45]⟩:ByteArray):=by
 unfold hexB
 rw[if_pos h]
theorem hexB_size(xs:List (BitVec 8)):(hexB xs).size=if xs.length=0 then 1 else 2*xs.length:=by
 split
 · rename_i h
   rw[hexB_none h];rfl
 · rename_i h
   rw[hexB_some h,hexS_size]
theorem hexL_hi{xs:List (BitVec 8)}{j:Nat}{x:BitVec 8}(h:xs[j]?=some x):(hexL xs)[2*j]?=some (nib (x>>>4).toNat):=by
 induction xs generalizing j with
 |nil=>cases h
 |cons y r ih=>
  show(nib (y>>>4).toNat::nib (y&&&15#8).toNat::hexL r)[2*j]?=_
  cases j with
  |zero=>cases h;rfl
  |succ j=>rw[show 2*(j+1)=2*j+1+1 by omega,List.getElem?_cons_succ,List.getElem?_cons_succ];exact ih h
theorem hexL_lo{xs:List (BitVec 8)}{j:Nat}{x:BitVec 8}(h:xs[j]?=some x):(hexL xs)[2*j+1]?=some (nib (x&&&15#8).toNat):=by
 induction xs generalizing j with
 |nil=>cases h
 |cons y r ih=>
  show(nib (y>>>4).toNat::nib (y&&&15#8).toNat::hexL r)[2*j+1]?=_
  cases j with
  |zero=>cases h;rfl
  |succ j=>rw[show 2*(j+1)+1=(2*j+1)+1+1 by omega,List.getElem?_cons_succ,List.getElem?_cons_succ];exact ih h
theorem or_nib:∀x:BitVec 8,IntKind.i64.wrap (((BitVec.ofInt 64 ((((x>>>4).toNat:Nat):Int)*16)|||BitVec.ofInt 64 (((x&&&15#8).toNat:Nat):Int)).toNat:Nat):Int)=((x.toNat:Nat):Int):=by decide+kernel
theorem take_nib{xs:List (BitVec 8)}{j:Nat}{x:BitVec 8}(h:xs[j]?=some x):xs.take j++[BitVec.ofNat 8 x.toNat]=xs.take (j+1):=by
 obtain⟨h1,rfl⟩:=List.getElem?_eq_some_iff.1 h
 rw[List.take_succ_eq_append_getElem h1]
 simp
section
variable{P:Program}{n:Nat}{ds:List Deferred}{ops:Array Oper}{K:Env→World→Prop}{l r:List (Nat×Kd)}{σ:Env}{w:World}{κ:Kd}{d:Option Tmp}
theorem RW.strCh{T:TypeId}{s:ByteArray}{k:IntKind}{t:Int}(i:Nat)(c:UInt8)(hl:BX.look P n ops l σ=some (κ,semV (Instr.index T (.string s) (.int k t)),d,r))(hT:isStr P T=true)(ht:t=(i:Int))(hc:s.data.toList[i]?=some c)
 (h:RW P ops n ds K r (putO d (.int .u8 ((c.toNat:Nat):Int)) σ) w):RW P ops n ds K l σ w:=by
 obtain⟨hi,rfl⟩:=List.getElem?_eq_some_iff.1 hc
 exact RW.strAt i hl hT ht (by simpa using hi) (by simpa using h)
theorem RW.subS{T:TypeId}{s:ByteArray}{k1 k2:IntKind}{t1 t2:Int}(a b:Nat)(hl:BX.look P n ops l σ=some (κ,semV (Instr.sliceAt T (.string s) (some (.int k1 t1)) (some (.int k2 t2)) none),d,r))(hT:isStr P T=true)(h1:t1=(a:Int))(h2:t2=(b:Int))(h3:a≤b)(h4:b≤s.size)
 (h:RW P ops n ds K r (putO d (.string (s.extract a b)) σ) w):RW P ops n ds K l σ w:=by
 subst h1
 subst h2
 have hu:P.underlying T=some .string:=by
  unfold isStr at hT
  split at hT
  ·assumption
  ·cases hT
 refine RW.readS hl (fun w' _=>semV_run ?_) h
 rw[run_sliceAt_string w' T _ _ _ _ hu]
 have b2:∀(k:IntKind)(code:BoundsCode),(Instr.sliceBound (.int k (b:Int)) s.size code).run P w'=.ok b w':=fun k code=>sliceBound_run h4
 have b1:∀(k:IntKind)(code:BoundsCode),(Instr.sliceBound (.int k (a:Int)) b code).run P w'=.ok a w':=fun k code=>sliceBound_run h3
 simp[Instr.slice,Instr.sliceBounds,run_underlying hu,b1,b2]
end
def colB:ByteArray:=⟨#[58]⟩
theorem index_col:∀(a b:List UInt8),(∀c∈a,c≠58)→Lib.index (a++58::b) [58]=a.length
 |[],b,_=>by
  show Lib.index (58::b) [58]=0
  rw[Lib.index,if_pos (by simp[List.isPrefixOf])]
 |c::r,b,h=>by
  have hc:=h c (List.mem_cons_self ..)
  have ih:=index_col r b fun x hx=>h x (List.mem_cons_of_mem _ hx)
  rw[List.cons_append,Lib.index,if_neg,ih,if_neg]
  ·simp
  · rw[beq_iff_eq]; omega
  · simp only[List.isPrefixOf,Bool.and_true,beq_iff_eq]
    exact fun e=>hc e.symm
theorem drop_col(l m:List UInt8)(c:UInt8):(l++c::m).drop (l.length+1)=m:=by
 rw[←List.singleton_append,←List.append_assoc,show l.length+1=(l++[c]).length by simp,List.drop_left]
theorem cut_c{w:World}{a b:ByteArray}(ha:∀c∈a.data.toList,c≠58)(hs:(a++colB++b).size<4294967281)(hq:cQ w):Calls Tryz.prog 74 #[.string (a++colB++b),.string (⟨#[58]⟩:ByteArray)] w (Ret fun v w'=>Ext w w'∧v=.tuple #[.string a,.string b,.bool true]):=by
 obtain⟨m,hm⟩:=hq.2.1
 refine(Any.strings_Cut Tryz.lays145 (a++colB++b) colB m w hs hm).mono fun e w' hh=>?_
 obtain⟨rfl,n,rfl⟩:=hh
 refine⟨_,rfl,ext_grow w n #[],?_⟩
 have e1:(a++colB++b).data.toList=a.data.toList++58::b.data.toList:=by
  rw[app_data,app_data,List.append_assoc];rfl
 have e2:Lib.cut (a++colB++b).data.toList colB.data.toList=(a.data.toList,b.data.toList,true):=by
  rw[e1,show colB.data.toList=[58]from rfl]
  unfold Lib.cut
  rw[index_col _ _ ha,if_pos (by omega),Int.toNat_natCast,List.take_left,show[(58:UInt8)].length=1 from rfl,drop_col]
 rw[e2]
def NumI(i0 i:Nat)(s:ByteArray):Prop:=(s.toList=(⟨#[]⟩:ByteArray).toList∧i=i0)∨(s.toList≠(⟨#[]⟩:ByteArray).toList∧Lib.decDigits i0=(if i=0 then[]else Lib.decDigits i)++s.data.toList)
theorem size_data(s:ByteArray):s.size=s.data.toList.length:=by simp
theorem NumI.sz{i0 i:Nat}{s:ByteArray}(h:NumI i0 i s)(h0:i0≤1000000):s.size≤7:=by
 rcases h with⟨h,-⟩|⟨-,h⟩
 ·rw[toList_inj h]; exact Nat.zero_le _
 · have h1:=dig_len h0
   have h2:=congrArg List.length h
   rw[size_data]at h1⊢
   change(Lib.decDigits i0).length≤7 at h1
   rw[List.length_append]at h2
   omega
theorem dig_snoc{i:Nat}:(if i/10=0 then[]else Lib.decDigits (i/10))++[UInt8.ofNat (48+i%10)]=Lib.decDigits i:=by
 rw[Lib.decDigits.eq_def i]
 by_cases h:i<10
 ·rw[dif_pos h,if_pos (by omega),Nat.mod_eq_of_lt h];rfl
 ·rw[dif_neg h,if_neg (by omega)]
theorem str_dig{i:Nat}{b:BitVec 8}(hb:b=BitVec.ofInt 8 (48+(i:Int)%10)):(strOf [b]).data.toList=[UInt8.ofNat (48+i%10)]:=by
 have e:(48+(i:Int)%10)=((48+i%10:Nat):Int):=by omega
 rw[hb,e,BitVec.ofInt_natCast]
 show[UInt8.ofNat (BitVec.ofNat 8 (48+i%10)).toNat]=_
 rw[BitVec.toNat_ofNat,Nat.mod_eq_of_lt (by omega)]
theorem NumI.step{i0 i:Nat}{s:ByteArray}{b:BitVec 8}(h:NumI i0 i s)(hc:0<i∨s.toList=(⟨#[]⟩:ByteArray).toList)(hb:b=BitVec.ofInt 8 (48+(i:Int)%10)):NumI i0 (i/10) (strOf [b]++s):=by
 refine .inr ⟨fun e=>?_,?_⟩
 · have h1 := congrArg (fun q :ByteArray=>q.data.toList.length) (toList_inj e)
   simp only[app_data,str_dig hb]at h1
   simp at h1
 · rw[app_data, str_dig hb, ←List.append_assoc,dig_snoc]
   rcases h with⟨h,rfl⟩|⟨h1,h2⟩
   · rw[toList_inj h]; exact(List.append_nil _).symm
   · rcases hc with hc |hc
     ·rw[h2,if_neg (by omega)]
     ·exact absurd hc h1
theorem NumI.fin{i0 i:Nat}{s:ByteArray}(h:NumI i0 i s)(hi:i=0)(hs:s.toList≠(⟨#[]⟩:ByteArray).toList):s=digB i0:=by
 rcases h with⟨h,-⟩|⟨-,h⟩
 ·exact absurd h hs
 · rw[if_pos hi, List.nil_append]at h
   exact data_inj (by rw[←h];rfl)
theorem num_meas{i:Nat}{s:ByteArray}{b:BitVec 8}(hc:0<i∨s.toList=(⟨#[]⟩:ByteArray).toList):2*(i/10)+(if(strOf [b]++s).size=0 then 1 else 0)<2*i+(if s.size=0 then 1 else 0):=by
 have h:(strOf [b]++s).size=1+s.size:=ByteArray.size_append
 rw[if_neg (by omega)]
 rcases hc with hc|hc
 ·omega
 ·rw[if_pos (by rw[toList_inj hc];rfl)];omega
theorem num_len{s:ByteArray}{b:BitVec 8}(h:s.size≤7):(strOf [b]).size+s.size≤9223372036854775807:=by
 have:(strOf [b]).size=1:=rfl
 omega
def nlB:ByteArray:=⟨#[10]⟩
def outB(rows:List (List (BitVec 8))):ByteArray:=rows.foldl (fun s x=>s++(hexB x++nlB)) ⟨#[]⟩
theorem outB_succ{rows:List (List (BitVec 8))}{i:Nat}(h:i<rows.length):outB (rows.take i)++(hexB rows[i]++nlB)=outB (rows.take (i+1)):=by
 unfold outB
 rw[List.take_succ_eq_append_getElem h,List.foldl_append];rfl
theorem hexB_le(xs:List (BitVec 8)):(hexB xs).size≤2*xs.length+1:=by
 rw[hexB_size]
 split<;>omega
theorem outB_sz{rows:List (List (BitVec 8))}{l i:Nat}(h:∀x∈rows,x.length=l)(hi:i≤rows.length):(outB (rows.take i)).size≤i*(2*l+2):=by
 induction i with
 |zero=>exact Nat.zero_le _
 |succ i ih=>
  have h1:=ih (by omega)
  have h2:=h _ (List.getElem_mem (show i<rows.length by omega))
  have h3:=hexB_le rows[i]
  rw[←outB_succ (by omega),ByteArray.size_append,ByteArray.size_append,Nat.succ_mul]
  have h4:nlB.size=1:=rfl
  omega
theorem two_le{a b m:Nat}(h1:a≤m)(h2:b≤m):∀x∈([a,b]:List Nat),x≤m:=by
 intro x hx
 simp only[List.mem_cons,List.not_mem_nil,or_false]at hx
 rcases hx with rfl|rfl
 ·exact h1
 ·exact h2
theorem one_len{xs:List (BitVec 8)}{l:Nat}(h:xs.length=l)(hl:l≤1000000):(hexB xs).size+(⟨#[10]⟩:ByteArray).size≤9223372036854775807:=by
 have h1:=hexB_le xs
 have h2:(⟨#[10]⟩:ByteArray).size=1:=rfl
 omega
theorem out_len{rows:List (List (BitVec 8))}{l i m:Nat}{h0:i<rows.length}(h:∀x∈rows,x.length=l)(hl:l≤1000000)(hi:i≤m)(hm:m≤1000):(outB (rows.take i)).size+(hexB rows[i]++(⟨#[10]⟩:ByteArray)).size≤9223372036854775807:=by
 have h1:=outB_sz h (show i≤rows.length by omega)
 have h2:=one_len (h _ (List.getElem_mem h0)) hl
 have h3:=hexB_le rows[i]
 have h4:=h _ (List.getElem_mem h0)
 have h5:i*(2*l+2)≤1000*2000002:=Nat.mul_le_mul (by omega) (by omega)
 have h6:(⟨#[10]⟩:ByteArray).size=1:=rfl
 rw[ByteArray.size_append]
 omega
end Go.Proofs.YtcafjhnjhhicdaaGreatDoor
