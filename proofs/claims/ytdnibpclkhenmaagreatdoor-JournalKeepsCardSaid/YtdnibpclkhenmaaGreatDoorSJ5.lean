import Derived.Test.YtdnibpclkhenmaaGreatDoorSJ1
import Derived.Test.YtdnibpclkhenmaaGreatDoorSBxA
namespace Go.Proofs.YtdnibpclkhenmaaGreatDoor
open Go.BX
def copyS(x:Sec)(ys:Bs):Sec:=fun j=>if j=0 then x 0 else if j-1<min ys.length 63 then ys.getD (j-1) 0#8 else x j
def countS(x:Sec)(y:BitVec 8):Sec:=fun j=>if j=0 then y else x j
theorem sec_made(ys:Bs):countS (copyS zeroSec ys) (BitVec.ofNat 8 (min ys.length 63))=secB (ys.take 63):=by
 funext j
 unfold countS copyS secB
 cases j with
 |zero=>
  rw[if_pos rfl,List.getD_cons_zero,List.length_take,Nat.min_comm]
 |succ j=>
  rw[if_neg (Nat.succ_ne_zero j),if_neg (Nat.succ_ne_zero j),List.getD_cons_succ,Nat.add_sub_cancel]
  rw[List.getD_eq_getElem?_getD,List.getD_eq_getElem?_getD, List.getElem?_take]
  split
  · rename_i h
    rw[if_pos (by omega)]
  · rename_i h
    split
    · rename_i h2
      rw[List.getElem?_eq_none (by omega)];rfl
    ·rfl
theorem secC_copy(x:Sec)(ys:Bs):(secC x).take 1++(ys.take 63).map bcell++(secC x).drop (1+(ys.take 63).length)=secC (copyS x ys):=by
 have hm:(ys.take 63).length=min ys.length 63:=by rw[List.length_take,Nat.min_comm]
 apply List.ext_getElem?
 intro i
 unfold secC
 rw[List.getElem?_map,List.append_assoc,List.getElem?_append]
 have b:(((List.range 64).map fun i=>bcell (x i)).take 1).length=1:=by simp
 rw[b]
 split
 · rename_i hi
   have : i = 0 := by omega
   subst this
   rfl
 · rename_i hi
   rw[List.getElem?_append, List.length_map,hm,List.getElem?_map,List.getElem?_take,List.getElem?_drop,List.getElem?_map]
   split
   · rename_i h2
     rw[if_pos (by omega), List.getElem?_eq_getElem (by omega), List.getElem?_range (by omega)]
     show some (bcell ys[i - 1])=some (bcell (copyS x ys i))
     unfold copyS
     rw[if_neg (by omega),if_pos h2,List.getD_eq_getElem?_getD,List.getElem?_eq_getElem (by omega)]
     rfl
   · rename_i h2
     rw[show 1 + min ys.length 63 +(i-1-min ys.length 63) = i by omega]
     rcases Nat.lt_or_ge i 64 with a | a
     · rw[List.getElem?_range a]
       show some (bcell (x i))=some (bcell (copyS x ys i))
       unfold copyS
       rw[if_neg (by omega),if_neg h2]
     ·rw[List.getElem?_eq_none (by simpa using a)];rfl
section
variable{P:Program}{n:Nat}{ds:List Deferred}{ops:Array Oper}{K:Env→World→Prop}{l r:List (Nat×Kd)}{σ:Env}{w w0:World}{κ:Kd}{d:Option Tmp}{S:Nat→Prop}{O:List Nat}{M:Heap}{W:List OwnS}{G:List Fact}
theorem slice1_run{T e:TypeId}(hT:arrE P T=some (64,e,1)){b:Nat}:(Instr.sliceAt T (.P b 0) (some (.I 1)) none none).run P w=.ok (.slice (some ⟨b,1,none⟩) 63 63) w:=by
 obtain⟨hu,i,hi',hm⟩:=arrE_spec hT
 simp[Instr.sliceAt,Instr.sureAddr,Instr.sliceBounds,Instr.sliceBound,asIntOf,run_underlying hu,sizeOf,typeInfo,hi',hm,addr_lit,Addr.add]
theorem rwSlice1{T e:TypeId}{b:Nat}(hl:Go.BX.look P n ops l σ=some (κ,semV (Instr.sliceAt T (.P b 0) (some (.I 1)) none none),d,r))(hT:arrE P T=some (64,e,1))
 (h:RW P ops n ds K r (putO d (.slice (some ⟨b,1,none⟩) 63 63) σ) w):RW P ops n ds K l σ w:=RW.readS hl (fun w' _=>semV_run (slice1_run hT)) h
theorem rwSlice0{T e:TypeId}{b:Nat}(hl:Go.BX.look P n ops l σ=some (κ,semV (Instr.sliceAt T (.P b 0) none none none),d,r))(hT:arrE P T=some (64,e,1))
 (h:RW P ops n ds K r (putO d (.slice (some ⟨b,0,none⟩) 64 64) σ) w):RW P ops n ds K l σ w:=RW.readS hl (fun w' _=>semV_run (sliceAt_arr hT (.inl ⟨rfl,rfl⟩) (Nat.le_refl _))) h
theorem rwCopy{T T2 e T' ty:TypeId}{a2:Option Addr}{sl sc b:Nat}{x:Sec}{ys:Bs}(hl:Go.BX.look P n ops l σ=some (.seq,semV (Builtin.copy_ #[T,T2] ty #[.slice (some ⟨b,1,none⟩) 63 63,.slice a2 sl sc]),d,r))
 (hT:sliceE P T=some (e,1))(H:Hp w0 S O ((b,.cells (secC x).toArray T' (0,0))::M) W G w)(g:Nat)(hg:G[g]?=some (Rp SB [.slice a2 sl sc] ys))
 (h:∀w',Hp w0 S O ((b,.cells (secC (copyS x ys)).toArray T' (0,0))::M) W G w'→RW P ops n ds K r (putO d (goInt (min ys.length 63:Nat)) σ) w'):RW P ops n ds K l σ w:=by
 obtain⟨rfl,_,_,hE⟩:=Shape.elems_of (H.rp g hg)
 have hb := (H.own _ (List.mem_cons_self ..)).1
 by_cases h0 : ys = []
 · subst h0
   have c := h w (by
    have : copyS x [] = x := by
     funext j
     unfold copyS
     split
     · rename_i e; rw[e]
     · rw[if_neg (by simp)]
    rw[this]; exact H)
   exact RW.actV hl (semV_run (copy_zero_run (dl := 63) (sl := 0) hT (by simp))) c
 · obtain⟨f,o2,news,rfl,_,hn,hc,k,hr⟩:=elems_flat hE h0
   change news.length=ys.length*1 at hn
   have hnews:news=ys.map bcell:=by
    apply List.ext_getElem (by simp[hn])
    intro i m _
    have a:=hr i ys[i] (List.getElem?_eq_getElem (by omega))
    change((news.drop (i*1)).take 1)=[.int .u8 (((ys[i]'(by omega)).toNat:Nat):Int)]at a
    rw[Nat.mul_one,List.drop_eq_getElem_cons m,List.take_succ_cons,List.take_zero]at a
    injection a with a
    rw[List.getElem_map,a];rfl
   have hN:(news.take 63).length=min ys.length 63:=by rw[List.length_take];omega
   have hrun:=copy_run (P:=P) (w:=w) (T2:=T2) (ty:=ty) hT (dl:=63) (dc:=63) (sl:=ys.length) (sc:=sc) hb (o:=1) (so:=o2) (news:=news.take 63) (o1:=1) (o2:=o2) (sb:=f) (by rw[hN,Nat.mul_one])
    (fun j v hj=>hc j v (by rw[List.getElem?_take]at hj;split at hj;exact hj;cases hj)) (fun v hv=>k v (List.mem_of_mem_take hv)) (fun _=>rfl) (fun _=>rfl) (by rw[hN];simp[secC_len];omega) (by simp[secC_len])
   refine RW.actV hl (semV_run hrun) (h _ ?_)
   have HP:=H.put 0 rfl (.cells (secC (copyS x ys)).toArray T' (0,0))
   have e:(secC x).toArray.toList.take 1++news.take 63++(secC x).toArray.toList.drop (1+(news.take 63).length)=secC (copyS x ys):=by
    have p:=secC_copy x ys
    rw[hnews,←List.map_take,List.length_map]
    exact p
   rw[e]
   exact HP
theorem hpFreeze{b:Nat}{T:TypeId}{x:Sec}(H:Hp w0 S O ((b,.cells (secC x).toArray T (0,0))::M) W G w):Hp w0 S O M W (Rp SB [.slice (some ⟨b,0,none⟩) 64 64] (secL x)::G) w:=by
 have h:=H.freeze 0 rfl Sb (secL x) 64 ⟨by rw[secL_len];exact Nat.le_refl _,by decide⟩ (by rw[secL_len];show 64*1≤(secC x).length;rw[secC_len];decide) (fun j y hj=>by
  have hlt:=(List.getElem?_eq_some_iff.1 hj).1
  have he:=(List.getElem?_eq_some_iff.1 hj).2
  rw[secL_len]at hlt
  show((secC x).drop (j*1)).take 1=[.int .u8 ((y.toNat:Nat):Int)]
  rw[Nat.mul_one,List.drop_eq_getElem_cons (by rw[secC_len];exact hlt),List.take_succ_cons,List.take_zero,←he]
  unfold secC secL
  rw[List.getElem_map,List.getElem_map]
  rfl)
 rw[secL_len]at h
 exact h
end
theorem modify_at{α:Type}{a:Array α}{b:Nat}{x:α}(f:α→α)(h:a[b]?=some x):a.modify b f=a.setIfInBounds b (f x):=by
 obtain⟨hlt,e⟩:=Array.getElem?_eq_some_iff.1 h
 apply Array.ext
 ·simp
 · intro i c _
   rw[Array.getElem_modify, Array.getElem_setIfInBounds (by simpa using c)]
   by_cases hi :b=i
   ·subst hi;rw[if_pos rfl,if_pos rfl,e]
   ·rw[if_neg hi,if_neg hi]
theorem conv_run{P:Program}{T e:TypeId}{w:World}{b len cap:Nat}{c:Array Value}{T':TypeId}(ht:P.underlying T=some (.slice e))(he:P.underlying e=some (.int .u8))(hb:w.heap[b]?=some (.cells c T' (0,0))):
 (convert T T (.slice (some ⟨b,0,none⟩) len cap)).run P w=.ok (.slice (some ⟨b,0,none⟩) len cap) {w with heap:=w.heap.setIfInBounds b (.cells c T' (c.size,c.size+1))}:=by
 have hsh:w.shape? b=some (T',c.size):=by simp[World.shape?,hb]
 have hfr:w.freeze ⟨b,c.size,none⟩ 1={w with heap:=w.heap.setIfInBounds b (.cells c T' (c.size,c.size+1))}:=by
  unfold World.freeze
  rw[if_neg (by decide)]
  show({w with heap:=w.heap.modify b _}:World)=_
  rw[modify_at _ hb]
  rfl
 simp[convert,run_underlying ht,run_underlying he,markStringish,hsh]
 exact hfr
section
variable{P:Program}{n:Nat}{ds:List Deferred}{ops:Array Oper}{K:Env→World→Prop}{l r:List (Nat×Kd)}{σ:Env}{w:World}{d:Option Tmp}
variable{w0:World}{S:Nat→Prop}{O:List Nat}{M:Heap}{W:List OwnS}{G:List Fact}
def sliceU8(P:Program)(T e:TypeId):Bool:=match P.underlying T,P.underlying e with
 |some (.slice e'),some (.int .u8)=>Nat.beq e' e
 |_,_=>false
theorem RW.convS{T e:TypeId}{b len cap:Nat}{c:Array Value}{T':TypeId}(hl:BX.look P n ops l σ=some (.seq,semV (convert T T (.slice (some ⟨b,0,none⟩) len cap)),d,r))(hT:sliceU8 P T e=true)
 (H:Hp w0 S O ((b,.cells c T' (0,0))::M) W G w)(h:∀w',Hp w0 S O ((b,.cells c T' (c.size,c.size+1))::M) W G w'→RW P ops n ds K r (putO d (.slice (some ⟨b,0,none⟩) len cap) σ) w'):RW P ops n ds K l σ w:=by
 unfold sliceU8 at hT
 split at hT
 · rename_i e' h1 h2
   obtain rfl := Nat.eq_of_beq_eq_true hT
   exact RW.actV hl (semV_run (conv_run h1 h2 (H.own _ (List.mem_cons_self ..)).1)) (h _ (H.put 0 rfl _))
 · cases hT
end
section
variable{P:Program}{n:Nat}{ds:List Deferred}{ops:Array Oper}{K:Env→World→Prop}{l r:List (Nat×Kd)}{σ:Env}{w:World}{d:Option Tmp}{κ:Kd}
end
end Go.Proofs.YtdnibpclkhenmaaGreatDoor
