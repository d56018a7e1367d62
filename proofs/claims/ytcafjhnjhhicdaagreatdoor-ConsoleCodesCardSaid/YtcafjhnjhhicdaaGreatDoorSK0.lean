import Derived.Test.YtcafjhnjhhicdaaGreatDoorRows
import Derived.Test.YtcafjhnjhhicdaaGreatDoorSL1
import Derived.Test.YtcafjhnjhhicdaaGreatDoorSBxA
import Derived.WalkKit
import Derived.LaidEql
import Derived.Stop.Asserts
import Derived.RowKitTokens
import Derived.OneCell
import Derived.Lib.LaidTab
import Derived.Lib.AppendIntMem
import Derived.Lib.ItoaNum
import Derived.Lib.Atoi
import Derived.Lib.Strings
import Derived.Lib.SmallJoins
namespace Go.Proofs.YtcafjhnjhhicdaaGreatDoor
open Go.BX
theorem Tryz_mixed:Tryz.prog.follows .mixedOrders=true:=by kernel_rfl
section
variable{P:Program}{n:Nat}{ds:List Deferred}{ops:Array Oper}{K:Env→World→Prop}{l r:List (Nat×Kd)}{σ:Env}{w:World}{d:Option Tmp}{κ:Kd}
def isStr(P:Program)(T:TypeId):Bool:=match P.underlying T with
 |some .string=>true
 |_=>false
theorem RW.strAt{T:TypeId}{s:ByteArray}{k:IntKind}{t:Int}(i:Nat)(hl:BX.look P n ops l σ=some (κ,semV (Instr.index T (.string s) (.int k t)),d,r))(hT:isStr P T=true)(ht:t=(i:Int))(hi:i<s.data.size)
 (h:RW P ops n ds K r (putO d (.int .u8 (((s.data[i]).toNat:Nat):Int)) σ) w):RW P ops n ds K l σ w:=by
 subst ht
 have hu:P.underlying T=some .string:=by
  unfold isStr at hT
  split at hT
  ·assumption
  ·cases hT
 refine RW.readS hl (fun w' _=>semV_run ?_) h
 rw[run_index_string w' T s k (i:Int) hu,dif_pos ⟨by omega,by show(i:Int)<(s.data.size:Int);omega⟩]
 rfl
end
theorem digitVal_dig{d:Nat}(h:d<10):Lib.digitVal (UInt8.ofNat (48+d))=some d:=by
 unfold Lib.digitVal
 rw[UInt8.toNat_ofNat']
 have:(48+d)%2^8=48+d:=by omega
 rw[this,if_pos (by omega)]
 congr 1;omega
theorem decFrom_app:∀(l m:List UInt8)(acc:Nat),Lib.decFrom acc (l++m)=(Lib.decFrom acc l).bind fun a=>Lib.decFrom a m
 |[],m,acc=>rfl
 |b::l,m,acc=>by
  rw[List.cons_append,Lib.decFrom,Lib.decFrom]
  cases Lib.digitVal b with
  |none=>rfl
  |some d=>exact decFrom_app l m _
theorem decFrom_dec:∀n:Nat,Lib.decFrom 0 (Lib.decDigits n)=some n:=by
 intro n
 induction n using Nat.strongRecOn with
 |_ n ih=>
  rw[Lib.decDigits]
  split
  · rename_i h
    rw[Lib.decFrom, digitVal_dig h]
    simp[Lib.decFrom]
  · rename_i h
    rw[decFrom_app,ih (n/10) (by omega),Option.bind_some,Lib.decFrom,digitVal_dig (by omega)]
    simp only[Lib.decFrom,Option.some.injEq];omega
theorem dec_head:∀n:Nat,∃d r,d<10∧Lib.decDigits n=UInt8.ofNat (48+d)::r:=by
 intro n
 induction n using Nat.strongRecOn with
 |_ n ih =>
  rw[Lib.decDigits]
  split
  · rename_i h
    exact⟨n,[],h,rfl⟩
  · rename_i h
    obtain⟨d, r, h1,h2⟩:=ih (n/10) (by omega)
    exact⟨d,r++[UInt8.ofNat (48+n%10)],h1,by rw[h2];rfl⟩
theorem atoi_dec(n:Nat):Lib.atoi (Lib.decDigits n)=some (n:Int):=by
 obtain⟨d,r,h1,h2⟩:=dec_head n
 have h3:=decFrom_dec n
 have e:(UInt8.ofNat (48+d)).toNat=48+d:=by rw[UInt8.toNat_ofNat'];omega
 have n1:(UInt8.ofNat (48+d)==45)=false:=by
  rw[beq_eq_false_iff_ne]
  intro q
  have:=congrArg UInt8.toNat q
  rw[e]at this
  have h45:(45:UInt8).toNat=45:=rfl
  omega
 have n2:(UInt8.ofNat (48+d)==43)=false:=by
  rw[beq_eq_false_iff_ne]
  intro q
  have:=congrArg UInt8.toNat q
  rw[e]at this
  have h45:(43:UInt8).toNat=43:=rfl
  omega
 rw[h2]at h3⊢
 simp only[Lib.atoi,n1,n2,Bool.false_eq_true,if_false]
 unfold Lib.decNat
 rw[List.isEmpty_cons]
 simp only[Bool.false_eq_true,if_false,h3,Option.map_some]
open Go.RowKit Go.Shelf Go.Maps Go.Sort
def cQ (w : World) : Prop := w.cell? ⟨0, 0, none⟩ = some (.iface 126 (.agg #[.P 9 49])) ∧ (∃ m : Int, w.cell? ⟨1, 0, none⟩ = some (.I m)) ∧ Lib.TabIs Tryz.prog w "internal/strconv.uint64pow10" .u64 Lib.pow10Tab
theorem ext_grow(w:World)(k:Nat)(os:Array Obj):Ext w (grow (w.drewN k) os):=
 ⟨rfl,rfl,rfl,by show w.heap.size≤(w.heap++os).size;rw[Array.size_append];omega,fun i hi=>by show(w.heap++os)[i]?=_;rw[Array.getElem?_append_left hi]⟩
def digB(n:Nat):ByteArray:=⟨(Lib.decDigits n).toArray⟩
theorem dig_pow:∀(n:Nat),1≤n→10^(Lib.nDigits n-1)≤n:=by
 intro n
 induction n using Nat.strongRecOn with
 |_ n ih=>
  intro h
  have e:Lib.nDigits n=(Lib.decDigits n).length:= (Lib.decDigits_length n).symm
  rw[e, Lib.decDigits]
  split
  · simpa using h
  · rename_i hn
    have h1:=ih (n/10) (by omega) (by omega)
    rw[←Lib.decDigits_length]at h1
    have h2:1≤(Lib.decDigits (n/10)).length:=by rw[Lib.decDigits_length];exact Lib.nDigits_pos _
    rw[List.length_append,List.length_singleton,Nat.add_sub_cancel]
    obtain⟨m,hm⟩:∃m,(Lib.decDigits (n/10)).length=m+1:=⟨_,(Nat.succ_pred_eq_of_pos h2).symm⟩
    rw[hm]at h1⊢
    rw[Nat.add_sub_cancel]at h1
    rw[Nat.pow_succ]
    omega
theorem dig_len{n:Nat}(h:n≤1000000):(digB n).size≤7:=by
 show(Lib.decDigits n).toArray.size≤7
 rw[List.size_toArray,Lib.decDigits_length]
 rcases Nat.lt_or_ge 7 (Lib.nDigits n)with h1| h1
 · have h7 := Lib.nDigits_pos n
   have h8:10^(Lib.nDigits n-1)≤n:=by
    rcases Nat.eq_zero_or_pos n with rfl|hn
    · exfalso
      have : Lib.nDigits 0 =1:=by rw[Lib.nDigits];rfl
      omega
    ·exact dig_pow n hn
   have h9:10^7≤10^(Lib.nDigits n-1):=Nat.pow_le_pow_right (by decide) (by omega)
   have h10:(10:Nat)^7=10000000:=by decide
   omega
 ·exact h1
theorem itoa_c{w:World}{n:Nat}(h:n≤1000000)(hq:cQ w):Calls Tryz.prog 31 #[.I n] w (Ret fun v w'=>Ext w w'∧v=.string (digB n)):=
 (Any.strconv_Itoa Tryz.laysM171 (n:Int) (by omega) (by omega) w hq.2.2).mono fun e w' hh=>by
  obtain⟨rfl,k,os,rfl⟩:=hh
  refine⟨_,rfl,ext_grow w k os,?_⟩
  unfold Lib.itoa digB
  rw[if_neg (by omega),Int.toNat_natCast]
theorem atoi_c{w:World}{n:Nat}(h:n≤1000000):Calls Tryz.prog 101 #[.string (digB n)] w (Ret fun v w'=>Ext w w'∧v=.tuple #[.I n,.nilIface]):=
 (Any.strconv_Atoi Tryz.lays172 (digB n) (n:Int) (Nat.le_trans (dig_len h) (by decide)) (atoi_dec n) w).mono fun e w' hh=>by
  obtain⟨rfl,t,rfl⟩:=hh
  exact⟨_,rfl,Go.Joins.below_bytesWorld _ w _ _ (Nat.le_refl _),rfl⟩
def sepB:ByteArray:=⟨#[32]⟩
def pieces(s:ByteArray):List ByteArray:=Lib.splitB sepB 0 (Lib.countB s sepB) s
theorem toList_inj{a b:ByteArray}(h:a.toList=b.toList):a=b:=by
 rw[ByteArray.toList_eq,ByteArray.toList_eq]at h
 cases a
 cases b
 simp only at h
 rw[Array.toList_inj.1 h]
def full(x:ByteArray):Bool:=decide (0<x.size)
def wordsB(s:ByteArray):List ByteArray:=(pieces s).filter full
theorem pieces_len(s:ByteArray):(pieces s).length=Lib.countB s sepB+1:=Lib.splitB_all sepB (by decide) 0 _ s rfl
theorem pieces_le(s:ByteArray):(pieces s).length≤s.size+1:=by
 rw[pieces_len]
 have:=Lib.countB_le sepB (by decide) s.size s (Nat.le_refl _)
 omega
theorem words_yes{s:ByteArray}{i:Nat}(h:i<(pieces s).length)(hf:¬(pieces s)[i].toList=(⟨#[]⟩:ByteArray).toList):((pieces s).take i).filter full++[(pieces s)[i]]=((pieces s).take (i+1)).filter full:=by
 rw[List.take_succ_eq_append_getElem h,List.filter_append]
 congr 1
 rw[List.filter_cons_of_pos]
 · rfl
 · unfold full
   refine decide_eq_true (Nat.pos_of_ne_zero fun h0 =>hf ?_)
   have:(pieces s)[i]=(⟨#[]⟩:ByteArray):=by
    generalize(pieces s)[i]=x at h0
    cases x
    congr 1
    exact Array.eq_empty_of_size_eq_zero h0
   rw[this]
theorem words_no{s:ByteArray}{i:Nat}(h:i<(pieces s).length)(hf:(pieces s)[i].toList=(⟨#[]⟩:ByteArray).toList):((pieces s).take (i+1)).filter full=((pieces s).take i).filter full:=by
 rw[List.take_succ_eq_append_getElem h,List.filter_append,List.filter_cons_of_neg,List.filter_nil,List.append_nil]
 rw[toList_inj hf];decide
theorem words_by{s:ByteArray}{i:Nat}(h:i<(pieces s).length)(hs:s.size<4294967281):(((pieces s).take (i+1)).filter full).length*16≤140737488355328∧(((pieces s).take (i+1)).filter full).length≤9223372036854775807:=by
 have h1:=List.length_filter_le full ((pieces s).take (i+1))
 have h2:((pieces s).take (i+1)).length≤(pieces s).length:=by rw[List.length_take];omega
 have h3:=pieces_le s
 omega
theorem str_all{S:Nat→Prop}{w:World}:∀{xs:List ByteArray},(∀x∈xs,x.size≤maxLen)→EsP Shape.str S w (xs.map Value.string) xs:=fun{xs}hx j x hj=>by
 obtain⟨hlt,rfl⟩:=List.getElem?_eq_some_iff.1 hj
 show Shape.str.rep _ _ (((xs.map Value.string).drop (j*1)).take 1) _
 rw[Nat.mul_one,List.drop_eq_getElem_cons (by rw[List.length_map];exact hlt)]
 simp only[List.take_succ_cons,List.take_zero,List.getElem_map]
 exact⟨rfl,hx _ (List.getElem_mem _)⟩
theorem extract_le(s:ByteArray)(a b:Nat):(s.extract a b).size≤s.size:=by
 rw[ByteArray.size_extract];omega
theorem splitB_le(sep:ByteArray)(save:Nat):∀(k:Nat)(s:ByteArray),∀x∈Lib.splitB sep save k s,x.size≤s.size
 |0,s,x,hx=>by
  obtain rfl:=List.mem_singleton.1 hx
  exact Nat.le_refl _
 |k+1,s,x,hx=> by
  unfold Lib.splitB at hx
  split at hx
  · obtain rfl := List.mem_singleton.1 hx
    exact Nat.le_refl _
  · rcases List.mem_cons.1 hx with rfl |hx
    ·exact extract_le _ _ _
    ·exact Nat.le_trans (splitB_le sep save k _ x hx) (extract_le _ _ _)
theorem split_c{S:Nat→Prop}{w:World}{s:ByteArray}(hs:s.size<4294967281)(hq:cQ w):Calls Tryz.prog 14 #[.string s,.string (⟨#[32]⟩:ByteArray)] w (Ret fun v w'=>Ext w w'∧∃b,v=.slice (some ⟨b,0,none⟩) (pieces s).length (pieces s).length∧Hp w S [] [] [⟨Shape.str,9,.slice (some ⟨b,0,none⟩) (pieces s).length (pieces s).length,pieces s⟩] [] w'):=by
 obtain⟨m,hm⟩:=hq.2.1
 refine(Any.strings_Split Tryz.lays146 (by kernel_rfl) s sepB m w hs hm (by decide)).mono fun e w' hh=>?_
 obtain⟨rfl,rfl⟩:=hh
 have H:=Hp.startF (w:=w) (S:=S) (G:=[]) .nil
 have H:=H.alloc (.cells ((pieces s).map Value.string).toArray 9 (0,0))
 have H:=Hp.toOwn (sh:=Shape.str) (xs:=pieces s) (cap:=(pieces s).length) H (by rw[List.size_toArray,List.length_map];exact(Nat.mul_one _).symm) (Nat.le_refl _) (Nat.le_trans (pieces_le s) (by unfold maxLen;omega)) (fun v hv=>by
  obtain⟨x,-,rfl⟩:=List.mem_map.1 (List.mem_of_mem_take hv)
  rfl) (str_all fun x hx=>Nat.le_trans (splitB_le _ _ _ _ x hx) (by unfold maxLen;omega))
 rw[←pieces_len]
 exact⟨_,rfl,H.done,_,rfl,H⟩
def digS:ByteArray:=⟨#[48,49,50,51,52,53,54,55,56,57,97,98,99,100,101,102]⟩
def nib(n:Nat):UInt8:=digS.data.getD n 0
theorem nib_at{n:Nat}(h:n<digS.data.size):digS.data[n]=nib n:=by
 unfold nib
 rw[Array.getD_eq_getD_getElem?,Array.getElem?_eq_getElem h];rfl
def hexL(xs:List (BitVec 8)):List UInt8:=xs.flatMap fun x:BitVec 8=>[nib (x>>>4).toNat,nib (x&&&15#8).toNat]
def hexB(xs:List (BitVec 8)):ByteArray:=if xs.length=0 then⟨#[45]⟩else⟨(hexL xs).toArray⟩
theorem hexL_succ{xs:List (BitVec 8)}{i:Nat}(h:i<xs.length):hexL (xs.take (i+1))=hexL (xs.take i)++[nib (xs[i]>>>4).toNat]++[nib (xs[i]&&&15#8).toNat]:=by
 unfold hexL
 rw[List.take_succ_eq_append_getElem h,List.flatMap_append,List.append_assoc];rfl
theorem hexL_len(xs:List (BitVec 8)):(hexL xs).length=2*xs.length:=by
 induction xs with
 |nil=>rfl
 |cons x r ih=>
  show(nib (x>>>4).toNat::nib (x&&&15#8).toNat::hexL r).length=_
  simp only[List.length_cons,ih];omega
theorem hi_lt(x:BitVec 8):(x>>>4).toNat<digS.data.size:=by
 show _<16
 rw[BitVec.toNat_ushiftRight,Nat.shiftRight_eq_div_pow]
 have:=x.isLt;omega
theorem lo_lt(x:BitVec 8):(x&&&15#8).toNat<digS.data.size:=by
 show _<16
 rw[BitVec.toNat_and]
 exact Nat.lt_of_le_of_lt Nat.and_le_right (by decide)
section
variable{P:Program}{n:Nat}{ds:List Deferred}{ops:Array Oper}{K:Env→World→Prop}{l r:List (Nat×Kd)}{σ:Env}{w:World}{κ:Kd}{d:Option Tmp}
theorem RW.strNib{T:TypeId}{k:IntKind}{t:Int}(i:Nat)(hl:BX.look P n ops l σ=some (κ,semV (Instr.index T (.string digS) (.int k t)),d,r))(hT:isStr P T=true)(ht:t=(i:Int))(hi:i<digS.data.size)
 (h:RW P ops n ds K r (putO d (.int .u8 (((nib i).toNat:Nat):Int)) σ) w):RW P ops n ds K l σ w:=
 RW.strAt i hl hT ht hi (by rw[nib_at hi];exact h)
end
theorem ext_below{w0 w w':World}(h:Ext w0 w)(hb:Below w0.heap.size w w'):Ext w0 w':=
 RowKit.Below.trans h hb
theorem byte_snoc(l:List UInt8)(d:UInt8):Lib.byteCells l++[.int .u8 ((d.toNat:Nat):Int)]=Lib.byteCells (l++[d]):=by
 unfold Lib.byteCells
 rw[List.map_append];rfl
theorem wb_c{w0 w:World}{sb:Nat}{l:List UInt8}{d:UInt8}(hE:Ext w0 w)(hI:Lib.IsBuilderF 150 5 w0.heap.size sb (Lib.byteCells l) w)(hl:l.length≤140737488355000):Calls Tryz.prog 72 #[.P sb 0,.int .u8 ((d.toNat:Nat):Int)] w (Ret fun v w'=>v=.nilIface∧Ext w0 w'∧Lib.IsBuilderF 150 5 w0.heap.size sb (Lib.byteCells (l++[d])) w'):=
 (Any.Builder_WriteByte_k Tryz.lays167 Tryz.Builder_Extra_167 w0.heap.size sb (Lib.byteCells l) ((d.toNat:Nat):Int) w hI (by rw[Lib.byteCells_length];omega) hE.size).mono fun e w' hh=>by
  obtain⟨rfl,h1,h2,h3⟩:=hh
  rw[byte_snoc]at h1
  exact⟨_,rfl,rfl,ext_below hE h2,.inr h1⟩
theorem bs_c{w0 w:World}{sb:Nat}{l:List UInt8}(hE:Ext w0 w)(hI:Lib.IsBuilderF 150 5 w0.heap.size sb (Lib.byteCells l) w):Calls Tryz.prog 73 #[.P sb 0] w (Ret fun v w'=>v=.string ⟨l.toArray⟩∧Ext w0 w'):=
 (Any.Builder_String_any_k Tryz.lays169 Tryz.Builder_Extra_169 w0.heap.size sb l w hI hE.size).mono fun e w' hh=>by
  obtain⟨rfl,h1,h2,h3⟩:=hh
  exact⟨_,rfl,rfl,ext_below hE h2⟩
theorem fresh_b{w0 w:World}{sb:Nat}(h1:w.heap[sb]?=some (.cells #[.pointer none,.slice none 0 0] 150 (0,0)))(h2:w0.heap.size≤sb):Lib.IsBuilderF 150 5 w0.heap.size sb (Lib.byteCells []) w:=
 .inl ⟨h2,_,h1,⟨rfl,.inl ⟨rfl,rfl⟩⟩,nofun⟩
theorem hexat_c{w:World}{c x:Int}(h:Lib.indexByte digS.data.toList c.toNat.toUInt8=x):Calls Tryz.prog 68 #[.string digS,.int .u8 c] w (Ret fun v w'=>Ext w w'∧v=.I x):=
 (Any.strings_IndexByte Tryz.lays137 digS c w).mono fun e w' hh=>by
  obtain⟨rfl,rfl⟩:=hh
  exact⟨_,rfl,Ext.refl _,by rw[h]⟩
theorem trim1{w:World}:Calls Tryz.prog 49 #[.string (⟨#[32,49]⟩:ByteArray),.string (⟨#[32]⟩:ByteArray)] w (Ret fun v w'=>Ext w w'∧v=.string (⟨#[49]⟩:ByteArray)):=
 (Any.strings_TrimPrefix Tryz.lays101 _ _ w).mono fun e w' hh=>by
  obtain⟨rfl,rfl⟩:=hh
  exact⟨_,rfl,Ext.refl _,by kernel_rfl⟩
theorem fmt2{w:World}:Calls Tryz.prog 47 #[.int .u64 2,.I 10] w (Ret fun v w'=>Ext w w'∧v=.string (⟨#[50]⟩:ByteArray)):=by
 refine Calls.mono (R:=fun e w'=>e=.returned (.string (⟨#[50]⟩:ByteArray))∧w'=w) ?_ fun e w' hh=>?_
 · go_enter Tryz.func47, Tryz.ntmps47
   go_wp2
   go_ret
   exact⟨rfl, rfl⟩
 · obtain⟨rfl,rfl⟩:=hh
   exact⟨_,rfl,Ext.refl _,rfl⟩
theorem itoa_l{w:World}{n:Nat}{s:ByteArray}(h:n≤1000000)(hd:digB n=s)(hq:cQ w):Calls Tryz.prog 31 #[.I n] w (Ret fun v w'=>Ext w w'∧v=.string s):=by
 subst hd
 exact itoa_c h hq
theorem dig0:digB 0=⟨#[48]⟩:=by
 unfold digB
 rw[Lib.decDigits,dif_pos (by decide)];rfl
theorem dig1:digB 1=⟨#[49]⟩:=by
 unfold digB
 rw[Lib.decDigits,dif_pos (by decide)];rfl
theorem dig5:digB 5=⟨#[53]⟩:=by
 unfold digB
 rw[Lib.decDigits,dif_pos (by decide)];rfl
theorem dig151:digB 151=⟨#[49,53,49]⟩:=by
 unfold digB
 rw[Lib.decDigits,dif_neg (by decide),Lib.decDigits,dif_neg (by decide),Lib.decDigits,dif_pos (by decide)];rfl
theorem dig270:digB 270=⟨#[50,55,48]⟩:=by
 unfold digB
 rw[Lib.decDigits,dif_neg (by decide),Lib.decDigits,dif_neg (by decide),Lib.decDigits,dif_pos (by decide)];rfl
end Go.Proofs.YtcafjhnjhhicdaaGreatDoor
