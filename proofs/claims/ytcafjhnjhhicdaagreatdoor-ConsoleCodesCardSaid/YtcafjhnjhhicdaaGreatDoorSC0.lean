import Derived.Test.YtcafjhnjhhicdaaGreatDoorSK0
namespace Go.Proofs.YtcafjhnjhhicdaaGreatDoor
open Go.BX
open Go.RowKit Go.Shelf
def spl:List UInt8→List (List UInt8)
 |[]=>[[]]
 |c::r=>if c=32 then[]::spl r else match spl r with
  |h::t=>(c::h)::t
  |[]=>[[c]]
theorem spl_ne:∀l,spl l≠[]
 |[]=>nofun
 |c::r=>by
  unfold spl
  split
  ·nofun
  ·split<;>nofun
theorem spl_app(x y:List UInt8):spl (x++32::y)=spl x++spl y:=by
 induction x with
 |nil=>
  show spl (32::y)=[[]]++spl y
  rw[spl,if_pos rfl];rfl
 |cons c r ih=>
  rw[List.cons_append,spl,spl]
  split
  ·rw[ih]; rfl
  · rw[ih]
    cases h:spl r with
    |nil=>exact absurd h (spl_ne r)
    |cons a t=>rfl
theorem spl_none{x:List UInt8}(h:∀c∈x,c≠32):spl x=[x]:=by
 induction x with
 |nil=>rfl
 |cons c r ih=>
  rw[spl,if_neg (h c (List.mem_cons_self ..)),ih fun d hd=>h d (List.mem_cons_of_mem _ hd)]
theorem index_ne{c:UInt8}(h:c≠32)(r:List UInt8):Lib.index (c::r) [32]=if Lib.index r [32]==-1 then-1 else Lib.index r [32]+1:=by
 rw[Lib.index,if_neg]
 simp only[List.isPrefixOf,Bool.and_true,beq_iff_eq]
 exact fun e=>h e.symm
theorem splitK_ne{c:UInt8}(h:c≠32)(k:Nat)(r:List UInt8):Lib.splitK [32] 0 k (c::r)=match Lib.splitK [32] 0 k r with
 |a::t=>(c::a)::t
 |[]=>[[c]]:=by
 cases k with
 |zero=>rfl
 |succ k=>
  unfold Lib.splitK
  rw[index_ne h]
  have hg:=Lib.index_ge r [32]
  by_cases hi : Lib.index r [32] =-1
  · rw[hi]; rfl
  · have e1:(Lib.index r [32]==-1)=false:=beq_eq_false_iff_ne.2 hi
    have e2:(Lib.index r [32]+1==-1)=false:=beq_eq_false_iff_ne.2 (by omega)
    obtain⟨n,hn⟩:∃n:Nat,Lib.index r [32]=n:=⟨(Lib.index r [32]).toNat,by omega⟩
    rw[hn]at e1 e2⊢
    simp only[e1,e2,Bool.false_eq_true,if_false,Nat.add_zero]
    have e3:((n:Int)+1).toNat=n+1:=by omega
    rw[e3,Int.toNat_natCast]
    rfl
theorem split_spl:∀s:List UInt8,Lib.splitK [32] 0 (Lib.count s [32]) s=spl s
 |[]=>rfl
 |c::r=>by
  by_cases h:c = 32
  · subst h
    rw[Lib.count_cons_eq,Nat.add_comm,Lib.splitK]
    have:Lib.index (32::r) [32]=0:=by rw[Lib.index,if_pos (by simp[List.isPrefixOf])]
    rw[this,if_neg (by decide),spl,if_pos rfl,←split_spl r]
    rfl
  ·rw[Lib.count_cons_ne _ _ _ h,splitK_ne h,split_spl r,spl,if_neg h]
theorem pieces_spl(s:ByteArray):(pieces s).map (·.data.toList)=spl s.data.toList:=by
 unfold pieces
 rw[Lib.splitB_data]
 exact split_spl _
theorem data_inj{a b:ByteArray}(h:a.data.toList=b.data.toList):a=b:=by
 cases a
 cases b
 congr 1
 exact Array.toList_inj.1 h
theorem map_data_inj:∀{l m:List ByteArray},l.map (·.data.toList)=m.map (·.data.toList)→l=m
 |[],[],_=>rfl
 |a::l,b::m,h=>by
  injection h with h1 h2
  rw[data_inj h1,map_data_inj h2]
theorem app_data(a b:ByteArray):(a++b).data.toList=a.data.toList++b.data.toList:=by simp
theorem words_app(x y:ByteArray):wordsB (x++sepB++y)=wordsB x++wordsB y:=by
 unfold wordsB
 rw[←List.filter_append]
 congr 1
 apply map_data_inj
 rw[List.map_append,pieces_spl,pieces_spl,pieces_spl,app_data,app_data,List.append_assoc,show sepB.data.toList=[32]from rfl,List.singleton_append,spl_app]
def Wd(x:ByteArray):Prop:=0<x.size∧∀c∈x.data.toList,c≠32
theorem words_one{x:ByteArray}(h:Wd x):wordsB x=[x]:=by
 have h1:pieces x=[x]:=map_data_inj (by rw[pieces_spl,spl_none h.2];rfl)
 unfold wordsB
 rw[h1,List.filter_cons_of_pos (by unfold full;exact decide_eq_true h.1)]
 rfl
def toks:List ByteArray→ByteArray
 |[]=>⟨#[]⟩
 |w::r=>sepB++w++toks r
theorem app_nil(x:ByteArray):x++(⟨#[]⟩:ByteArray)=x:=data_inj (by rw[app_data];exact List.append_nil _)
theorem nil_app(x:ByteArray):(⟨#[]⟩:ByteArray)++x=x:=data_inj (by rw[app_data];rfl)
theorem app_assoc(x y z:ByteArray):x++y++z=x++(y++z):=data_inj (by simp only[app_data,List.append_assoc])
theorem toks_snoc(ws:List ByteArray)(w:ByteArray):toks ws++(sepB++w)=toks (ws++[w]):=by
 induction ws with
 |nil=>
  show(⟨#[]⟩:ByteArray)++(sepB++w)=sepB++w++⟨#[]⟩
  rw[nil_app,app_nil]
 |cons a r ih=>
  show sepB++a++toks r++(sepB++w)=sepB++a++toks (r++[w])
  rw[app_assoc,ih]
theorem toks_cons(ws:List ByteArray)(w:ByteArray):sepB++w++toks ws=toks (w::ws):=rfl
theorem words_toks:∀{ws:List ByteArray}(x:ByteArray),(∀w∈ws,Wd w)→wordsB (x++toks ws)=wordsB x++ws
 |[],x,_=>by rw[toks,app_nil,List.append_nil]
 |w::r,x,h=>by
  rw[toks,←app_assoc,←app_assoc,words_toks _ fun a ha=>h a (List.mem_cons_of_mem _ ha),words_app,words_one (h w (List.mem_cons_self ..)),List.append_assoc]
  rfl
theorem toks_size:∀{ws:List ByteArray}{b:Nat},(∀w∈ws,w.size≤b)→(toks ws).size≤ws.length*(b+1)
 |[],b,_=>Nat.zero_le _
 |w::r,b,h=>by
  have h1:=h w (List.mem_cons_self ..)
  have h2:=toks_size (ws:=r) (b:=b) fun a ha=>h a (List.mem_cons_of_mem _ ha)
  rw[toks,ByteArray.size_append,ByteArray.size_append,List.length_cons,Nat.succ_mul]
  have h3:sepB.size=1:=rfl
  omega
end Go.Proofs.YtcafjhnjhhicdaaGreatDoor
