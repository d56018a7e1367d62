import Derived.Test.YtcafjhnjhhicdaaGreatDoorSBxA
import Derived.Shelf.GgSortFunc.InsertionK
import Derived.ProofKit
import Derived.Deep.Slices
/-
  THE ENGINE: a judgement on a frame whose slots are known by a list, over any program; laws for each operation.
  No condition.
-/
/-
 THE ENGINE's SORT: a row of the call's own, as the shelf's sort wants it, and as it leaves it.
 No condition.
-/
namespace Go.BX
open Go.RowKit(Below)
open Go.Sort Go.Proofs
section
variable{α:Type}[Inhabited α]{w0 w:World}{S:Nat→Prop}{O:List Nat}{M:Heap}{W:List OwnS}{G:List Fact}{sh:Shape α}{enc:α→List Value}{k:Nat}{T:TypeId}{b cap:Nat}{xs:List α}
theorem row_cell{c:Array Value}(hk:sh.size=k)(h0:0<k)(hE:∀x cs,sh.rep S w cs x→cs=enc x)(hs:EsP sh S w c.toList xs){j:Nat}(hj:j<xs.length*k)(hl:xs.length*k≤c.size):
 c[j]?=some ((enc xs[j/k]!)[j%k]!):=by
 have hd:j/k<xs.length:=Nat.div_lt_of_lt_mul (by rw[Nat.mul_comm];exact hj)
 have hm:j%k<k:=Nat.mod_lt _ h0
 have hr:=hs (j/k) xs[j/k] (List.getElem?_eq_getElem hd)
 have he:=hE _ _ hr
 rw[hk]at he
 have hlen:=sh.len hr
 rw[hk]at hlen
 have a:((c.toList.drop (j/k*k)).take k)[j%k]?=c[j]?:=by
  rw[List.getElem?_take,if_pos hm,List.getElem?_drop,Nat.div_add_mod']
  simp
 rw[←a,he]
 have hlt:j%k<(enc xs[j/k]).length:=by rw[←he,hlen];exact hm
 rw[getElem!_pos xs (j/k) hd,getElem!_pos _ (j%k) hlt,List.getElem?_eq_getElem hlt]
theorem Hp.holdsK(hk:sh.size=k)(h0:0<k)(hE:∀(S:Nat→Prop)(w:World)x cs,sh.rep S w cs x→cs=enc x)(H:Hp w0 S O M (⟨sh,T,.slice (some ⟨b,0,none⟩) xs.length cap,xs⟩::W) G w)(hp:0<xs.length):
 HoldsK enc k w b 0 xs.toArray∧b<w.heap.size:=by
 obtain⟨b',c,hb,-,hcs,a,_,_,HR⟩:=H.toRaw1 hp
 obtain⟨rfl⟩:b=b':=by simpa using hb
 have hh:=(HR.own _ (List.mem_cons_self ..)).1
 have hes:=HR.es 0 rfl
 refine⟨fun j hj=>?_,(Array.getElem?_eq_some_iff.1 hh).1⟩
 rw[size_flatK,List.size_toArray]at hj
 have hl:xs.length*k≤c.size:=by rw[hcs,hk];exact Nat.mul_le_mul_right _ a
 have hc:=row_cell hk h0 (hE _ _) hes hj hl
 have hf:=get_flatK enc k xs.toArray j (by rw[List.size_toArray];exact hj)
 refine⟨?_, ?_⟩
 · rw[cell_of_row w b (0 + j) c T (0, 0) hh, Nat.zero_add, hc, id, hf]
   simp
 · simp only[World.frozen?]at *
   rw[hh]
   simp
theorem Hp.sortedK(hk:sh.size=k)(h0:0<k)(hE:∀(S:Nat→Prop)(w:World)x cs,sh.rep S w cs x→cs=enc x)(hlen:∀x,(enc x).length=k)(H:Hp w0 S O M (⟨sh,T,.slice (some ⟨b,0,none⟩) xs.length cap,xs⟩::W) G w)(hp:0<xs.length)
 {d':Array α}{n:Nat}{os:Array Obj}(hd:d'.toList.Perm xs):
 Hp w0 S O M (⟨sh,T,.slice (some ⟨b,0,none⟩) xs.length cap,d'.toList⟩::W) G (sortWorldK enc k w b 0 n d' os):=by
 obtain⟨b',c,hb,-,hcs,d,g,_,HR⟩:=H.toRaw1 hp
 obtain⟨rfl⟩:b=b':=by simpa using hb
 have hh:=(HR.own _ (List.mem_cons_self ..)).1
 have hes:=HR.es 0 rfl
 have hbl:=(Array.getElem?_eq_some_iff.1 hh).1
 have hsz:d'.size=xs.length:=by have:=hd.length_eq;simpa using this
 have hl:xs.length*k≤c.size:=by rw[hcs,hk];exact Nat.mul_le_mul_right _ d
 let c':Array Value:=putCells id 0 (flatK enc k d') c
 have hcl:c'.size=c.size:=by simp[c',putCells]
 have hget:∀j,j<xs.length*k→c'[j]?=some ((enc d'[j/k]!)[j%k]!):=fun j hj=>by
  have hjc:j<c.size:=by omega
  have hf:=get_flatK enc k d' j (by rw[hsz];exact hj)
  simp only[c',putCells,Array.getElem?_mapIdx,Array.getElem?_eq_getElem hjc,Option.map_some,size_flatK,hsz]
  rw[if_pos ⟨Nat.zero_le _,by omega⟩,Nat.sub_zero,hf,id]
 have HP:=HR.put 0 rfl (.cells c' T (0,0))
 have hext:Ext {w with heap:=w.heap.setIfInBounds b (.cells c' T (0,0))} (sortWorldK enc k w b 0 n d' os):=by
  have hheap: (sortWorldK enc k w b 0 n d' os).heap = w.heap.setIfInBounds b (.cells c' T (0, 0)) ++ os := by
   show(w.heap.modify b _) ++ os = _
   congr 1
   apply Array.ext_getElem?
   intro j
   rw[Array.getElem?_modify, Array.getElem?_setIfInBounds]
   by_cases hj : b = j
   · subst hj
     rw[if_pos rfl, if_pos rfl, if_pos hbl, hh]
     rfl
   · rw[if_neg hj, if_neg hj]
  refine⟨rfl, rfl, rfl, ?_,fun q hq=>?_⟩
  ·rw[hheap];simp
  ·rw[hheap,Array.getElem?_append_left hq]
 have HE:=HP.ext hext
 simp only[List.set_cons_zero]at HE
 have hrow:∀i x,d'.toList[i]?=some x→(c'.toList.drop (i*k)).take k=enc x:=fun i x hx=>by
  have hi:=(List.getElem?_eq_some_iff.1 hx).1
  rw[hd.length_eq]at hi
  have hik:i*k+k≤xs.length*k:=by rw[←Nat.succ_mul];exact Nat.mul_le_mul_right _ hi
  have hx!:d'[i]! =x:=by
   have h':i<d'.size:=by omega
   rw[getElem!_pos d' i h']
   simpa[h']using hx
  apply List.ext_getElem?
  intro t
  by_cases ht:t< k
  · rw[List.getElem?_take, if_pos ht, List.getElem?_drop]
    have hq := hget (i * k + t) (by omega)
    have a : (i * k + t) / k = i := by rw[Nat.mul_comm, Nat.mul_add_div h0, Nat.div_eq_of_lt ht, Nat.add_zero]
    have l :(i*k+t)%k=t:=by rw[Nat.mul_comm,Nat.mul_add_mod,Nat.mod_eq_of_lt ht]
    rw[a,l,hx!]at hq
    have ht':t<(enc x).length:=by rw[hlen];exact ht
    rw[Array.getElem?_toList,hq,getElem!_pos _ t ht',List.getElem?_eq_getElem ht']
  ·rw[List.getElem?_take,if_neg ht,List.getElem?_eq_none (by rw[hlen];omega)]
 have hrep:∀x,x∈d'.toList→sh.rep (Av S w0 O (idsOf ((b,.cells c' T (0,0))::M) W)) (sortWorldK enc k w b 0 n d' os) (enc x) x:=fun x hx=>by
  have e:=hd.mem_iff.1 hx
  obtain⟨i,hi,rfl⟩:=List.mem_iff_getElem.1 e
  have h:=HE.es 0 rfl i xs[i] (List.getElem?_eq_getElem hi)
  have:=hE _ _ _ _ h
  rw[this]at h
  exact h
 have hes':EsP sh (Av S w0 O (idsOf ((b,.cells c' T (0,0))::M) W)) (sortWorldK enc k w b 0 n d' os) c'.toList d'.toList:=fun i x hx=>by
  rw[hk,hrow i x hx]
  exact hrep x (List.mem_of_getElem? hx)
 have hone:∀v∈c'.toList.take (d'.toList.length*sh.size),v.oneCell'=true:=fun v hv=>by
  obtain⟨j,hj,rfl⟩:=List.mem_iff_getElem.1 hv
  have hj':j<xs.length*k:=by
   rw[List.length_take,hd.length_eq,hk]at hj
   omega
  have hjk:j/k<d'.size:=by rw[hsz];exact Nat.div_lt_of_lt_mul (by rw[Nat.mul_comm];exact hj')
  have hm:j%k<(enc d'[j/k]!).length:=by rw[hlen];exact Nat.mod_lt _ h0
  have hq:=hget j hj'
  rw[getElem!_pos _ (j%k) hm]at hq
  have f:(c'.toList.take (d'.toList.length*sh.size))[j]=(enc d'[j/k]!)[j%k]:=by
   have a:(c'.toList.take (d'.toList.length*sh.size))[j]?=c'[j]?:=by
    rw[List.getElem?_take,if_pos (by rw[hd.length_eq,hk];exact hj')]
    simp
   rw[hq,List.getElem?_eq_getElem hj]at a
   exact Option.some.inj a
  rw[f]
  refine sh.ones (hrep d'[j/k]! ?_) _ (List.getElem_mem hm)
  rw[getElem!_pos d' (j/k) hjk]
  exact Array.mem_toList_iff.2 (Array.getElem_mem hjk)
 have hfin:=(HE.toOwn (sh:=sh) (cap:=cap) (xs:=d'.toList) (by rw[hcl];exact hcs) (by rw[hd.length_eq];exact d) g hone hes').facts_sub (G':=G) fun F hF=>List.mem_cons_of_mem _ hF
 rw[hd.length_eq]at hfin
 exact hfin
end
def Gr(w w':World):Prop:=∃q os,w'=grow (w.drewN q) os
theorem Gr.refl(w:World):Gr w w:=⟨0,#[],by rw[grow_empty];rfl⟩
theorem Gr.draw{w a:World}(h:Gr w a):Gr w {a with drawn:=a.drawn+1}:=by
 obtain⟨q,os,rfl⟩:=h
 exact⟨q+1,os,rfl⟩
theorem Gr.new{w a b:World}{o:Obj}(h:Gr w a)(hq:b={a with heap:=a.heap.push o}):Gr w b:=by
 obtain⟨q,os,rfl⟩:=h
 subst hq
 refine⟨q,os.push o,?_⟩
 simp[grow]
section
variable{P:Program}{n:Nat}{ds:List Deferred}{ops:Array Oper}{K:Env→World→Prop}{l r:List (Nat×Kd)}{σ:Env}{w:World}{κ:Kd}{d:Option Tmp}
theorem RW.newG{w0:World}{S:Nat→Prop}{O:List Nat}{M:Heap}{W:List OwnS}{G:List Fact}{o:Obj}{v:Nat→Value}(hl:∀b,lookM P n ops l σ b=some (κ,o,v b,d,r))(hκ:κ≠.qui)(H:Hp w0 S O M W G w)
 (hk:∀b w',w'={w with heap:=w.heap.push o}→Hp w0 S O ((b,o)::M) W G w'→RW P ops n ds K r (putO d (v b) σ) w'):RW P ops n ds K l σ w:=by
 have c:∃s,look P n ops l σ=some (κ,s,d,r)∧∀b,newAt P b s=some (o,v b):=by
  have a:=hl 0
  unfold lookM at a
  cases hlk:look P n ops l σ with
  |none=>rw[hlk]at a;cases a
  |some x=>
   obtain⟨κ',s,d',r'⟩:=x
   rw[hlk]at a
   simp only at a
   have all:∀b,κ'=κ∧newAt P b s=some (o,v b)∧d'=d∧r'=r:=by
    intro b
    have hb:=hl b
    unfold lookM at hb
    rw[hlk]at hb
    simp only at hb
    cases hn:newAt P b s with
    |none=>rw[hn]at hb;cases hb
    |some y=>
     obtain⟨o',u⟩:=y
     rw[hn]at hb
     simp only[Option.some.injEq,Prod.mk.injEq]at hb
     obtain⟨rfl,rfl,e,rfl,rfl⟩:=hb
     exact⟨rfl,by rw[e],rfl,rfl⟩
   obtain⟨rfl,_,rfl,rfl⟩:=all 0
   exact⟨s,rfl,fun b=>(all b).2.1⟩
 obtain⟨s,hl,hn⟩:=c
 exact RW.makeS hl hκ (newAt_run hn w) ⟨rfl,rfl,rfl,by simp,fun k hk=>by
  show(w.heap.push o)[k]?=_
  rw[Array.getElem?_push,if_neg (by omega)]⟩ (hk _ _ rfl (H.alloc o))
end
end Go.BX

/-
 THE ENGINE: a row of the call's own, read as another shape of the same cells.
 No condition.
-/
namespace Go.BX
section
variable{w0 w:World}{S:Nat→Prop}{O:List Nat}{M:Heap}{W:List OwnS}{G:List Fact}
theorem Hp.shapeW{α β:Type}{sh:Shape α}{sh':Shape β}{T:TypeId}{v:Value}{xs:List α}{ys:List β}(H:Hp w0 S O M (⟨sh,T,v,xs⟩::W) G w)(hz:sh'.size=sh.size)(hl:ys.length=xs.length)
 (hr:∀cs,cs.length=xs.length*sh.size→(∀i x,xs[i]?=some x→sh.rep (Av S w0 O (idsOf M (⟨sh,T,v,xs⟩::W))) w ((cs.drop (i*sh.size)).take sh.size) x)→w.ownsRow 0 T sh.size v xs.length cs→∀i y,ys[i]?=some y→sh'.rep (Av S w0 O (idsOf M (⟨sh,T,v,xs⟩::W))) w ((cs.drop (i*sh.size)).take sh.size) y):
 Hp w0 S O M (⟨sh',T,v,ys⟩::W) G w:=by
 have hid:idsOf M (⟨sh',T,v,ys⟩::W)=idsOf M (⟨sh,T,v,xs⟩::W):=rfl
 refine⟨H.below,H.own,fun o ho=>?_,by rw[hid];exact H.nodup,by rw[hid];exact H.facts⟩
 rcases List.mem_cons.1 ho with rfl|ho
 · have h := H.slc ⟨sh, T, v, xs⟩ (List.mem_cons_self ..)
   obtain⟨cs, a,b,c⟩:=h.1
   refine⟨⟨cs,?_,b,fun i y hy=>?_⟩, h.2⟩
   · show w.ownsRow 0 T sh'.size v ys.length cs
     rw[hz, hl]
     exact a
   · show sh'.rep _ w ((cs.drop (i * sh'.size)).take sh'.size) y
     rw[hz, hid]
     exact hr cs a.1 c a i y hy
 · rw[hid]
   exact H.slc o (List.mem_cons_of_mem _ ho)
theorem Hp.liftW{α β:Type}{sh:Shape α}{sh':Shape β}{T:TypeId}{v:Value}{xs:List α}(f:β→α)(H:Hp w0 S O M (⟨sh,T,v,xs⟩::W) G w)(hz:sh'.size=sh.size)(hf:∀(S:Nat→Prop)(w:World)cs x,sh.rep S w cs x→∃y,f y=x∧sh'.rep S w cs y):
 ∃ys:List β,ys.map f=xs∧Hp w0 S O M (⟨sh',T,v,ys⟩::W) G w:=by
 obtain⟨cs,b,c,d⟩:=(H.slc ⟨sh,T,v,xs⟩ (List.mem_cons_self ..)).1
 have hch:∀i:Nat,i<xs.length→∃y:β,(∀x,xs[i]?=some x→f y=x)∧sh'.rep (Av S w0 O (idsOf M (⟨sh,T,v,xs⟩::W))) w ((cs.drop (i*sh.size)).take sh.size) y:=fun i hi=>by
  obtain⟨y,hy,hr⟩:=hf _ _ _ _ (d i xs[i] (List.getElem?_eq_getElem hi))
  exact⟨y,fun x hx=>by rw[List.getElem?_eq_getElem hi]at hx;cases hx;exact hy,hr⟩
 have hlist:∀m,m≤xs.length→∃ys:List β,ys.length=m∧∀i y,ys[i]?=some y→(∀x,xs[i]?=some x→f y=x)∧sh'.rep (Av S w0 O (idsOf M (⟨sh,T,v,xs⟩::W))) w ((cs.drop (i*sh.size)).take sh.size) y:=by
  intro m
  induction m with
  |zero=>intro _;exact⟨[],rfl,fun i y h=>by simp at h⟩
  |succ m ih=>
   intro hm
   obtain⟨ys,hl,hy⟩:=ih (by omega)
   obtain⟨y,a⟩:=hch m (by omega)
   refine⟨ys++[y],by simp[hl],fun i z hz=>?_⟩
   rcases Nat.lt_or_ge i ys.length with hi|hi
   · rw[List.getElem?_append_left hi]at hz
     exact hy i z hz
   · rw[List.getElem?_append_right hi]at hz
     have : i = m := by
      have := (List.getElem?_eq_some_iff.1 hz).1
      simp at this
      omega
     subst this
     rw[hl]at hz
     simp at hz
     subst hz
     exact a
 obtain⟨ys, hl, hy⟩:= hlist xs.length (Nat.le_refl _)
 refine⟨ys, ?_, ?_⟩
 · apply List.ext_getElem (by simp[hl])
   intro i a e
   rw[List.getElem_map]
   exact(hy i ys[i] (List.getElem?_eq_getElem (by simpa using a))).1 xs[i] (List.getElem?_eq_getElem e)
 · have hid : idsOf M (⟨sh', T, v, ys⟩:: W) = idsOf M (⟨sh, T, v, xs⟩:: W) := rfl
   refine⟨H.below, H.own, fun o ho =>?_, by rw[hid]; exact H.nodup, by rw[hid]; exact H.facts⟩
   rcases List.mem_cons.1 ho with rfl | ho
   · refine⟨⟨cs, ?_, c, fun i y h =>?_⟩, (H.slc ⟨sh, T, v, xs⟩ (List.mem_cons_self ..)).2⟩
     · show w.ownsRow 0 T sh'.size v ys.length cs
       rw[hz, hl]
       exact b
     · show sh'.rep _ w ((cs.drop (i * sh'.size)).take sh'.size) y
       rw[hz, hid]
       exact(hy i y h).2
   · rw[hid]
     exact H.slc o (List.mem_cons_of_mem _ ho)
theorem Hp.mapW{α β:Type}{sh:Shape α}{sh':Shape β}{T:TypeId}{v:Value}{ys:List β}(f:β→α)(H:Hp w0 S O M (⟨sh',T,v,ys⟩::W) G w)(hz:sh'.size=sh.size)(hf:∀(S:Nat→Prop)(w:World)cs y,sh'.rep S w cs y→sh.rep S w cs (f y)):
 Hp w0 S O M (⟨sh,T,v,ys.map f⟩::W) G w:=
 H.shapeW hz.symm (by simp) fun cs _ hr _ i x hx=>by
  rw[List.getElem?_map]at hx
  cases hy:ys[i]? with
  |none=>rw[hy]at hx;cases hx
  |some y=>
   rw[hy]at hx
   simp at hx
   subst hx
   exact hf _ _ _ _ (hr i y hy)
end
end Go.BX

/-
 THE ENGINE: so many noughts appended to a nil slice.
 No condition.
-/
namespace Go.BX
section
variable{P:Program}{n:Nat}{ds:List Deferred}{ops:Array Oper}{K:Env→World→Prop}{l r:List (Nat×Kd)}{σ:Env}{w:World}{d:Option Tmp}
variable{w0:World}{S:Nat→Prop}{O:List Nat}{M:Heap}{W:List OwnS}{G:List Fact}
theorem RW.appendZN{T TI ty e:TypeId}{m by_:Nat}{ik:IntKind}{j:Nat}{t:Int}(hl:look P n ops l σ=some (.seq,semV (Builtin.append_ #[T,TI] ty #[.slice none 0 0,.int .i64 t]),d,r))
 (ht:t=(j:Int))(hT:elemE P T=some (e,m,by_,true))(hI:P.underlying TI=some (.int ik))(H:Hp w0 S O M W G w)(hm:0<m)(hj:0<j)(h63:j≤9223372036854775807)(hby:j*by_≤140737488355328)
 (h:∀b' cc c' w',Hp w0 S O ((b',.cells c' e (0,0))::M) W G w'→c'.size=cc*m→j≤cc→cc≤9223372036854775807→
  RW P ops n ds K r (putO d (.slice (some ⟨b',0,none⟩) j cc) σ) w'):RW P ops n ds K l σ w:=by
 subst ht
 obtain⟨hu,ti,z,hti,hz,rfl,rfl,hzs⟩:=elemE_spec hT
 have hr:(Builtin.append_ #[T,TI] ty #[.slice none 0 0,.int .i64 (j:Int)]).run P w=.ok (.slice (some ⟨w.heap.size,0,none⟩) j (grownCap w j 0 e))
  (w.drew.alloc (.cells (Builtin.zeroCells z.cells j++Builtin.zeroCells z.cells (grownCap w j 0 e-j)) e)):=by
  have hn:¬(j=0):=by omega
  have h63':¬(9223372036854775807<(j:Int)):=by omega
  have h48':¬(281474976710656<Builtin.nextslicecap j 0*ti.bytes):=by rw[nextslicecap_zero hj];omega
  have hw:IntKind.i64.wrap (j:Int)=j:=by rw[IntKind.wrap_i64];omega
  have hbj:¬(281474976710656<(j:Int)*(ti.bytes:Int)):=by
   have c:((j*ti.bytes:Nat):Int)≤140737488355328:=by omega
   rw[Int.natCast_mul]at c
   omega
  have a:¬(ti.size=0):=by omega
  have hneg:¬((j:Int)<0):=by omega
  simp[Builtin.append_,run_underlying hu,run_underlying hI,sizeOf,typeInfo,zeroValue,hti,hz,hn,h63',h48',Question.forced,run_firstCells_none,newRow,grownCap,asInt,asIntOf,hw,hbj, a, hneg]
  intro _
  have := Nat.mul_pos hj hm
  omega
 refine RW.actV hl (semV_run hr) (h _ (grownCap w j 0 e) _ _ (H.draw.alloc _) ?_ (grownCap_ge _ _ _ _) ?_)
 · have b : ∀ k, (Builtin.zeroCells z.cells k).size = k * ti.size := fun k => by
    rw[← hzs]; exact size_zeroCells _ _
   have hge := grownCap_ge w j 0 e
   rw[Array.size_append, b, b, ← Nat.add_mul]
   congr 1
   omega
 · have := grownCap_le_maxLen w j 0 e (by unfold maxLen; omega)
   unfold maxLen at this
   exact this
end
end Go.BX

/-
 THE ENGINE's BRIDGE: what a laws arguments read as, in the engine's shapes; what a law leaves.
 No condition.
-/
namespace Go.BX
open Go.RowKit
open Go.ChangeShapes Go.WideShapes Go.ChangeAt
def Reads{α:Type}(P:Program)(t:TypeId)(sh:Shape α):Prop:=
 ∀(H:Type)(enc:TypeId×Value→H)(w:World)(spare:Nat→Bool)(held:Bool)(fuel:Nat)(cs:List Value)(x:DataW H×List MemPlace),
  DataW.trod enc P w 0 spare held fuel t cs=some x→∃y,sh.rep (fun b=>b<w.heap.size) w cs y
theorem Reads.int{P:Program}{t:TypeId}{k:IntKind}(ht:P.underlying t=some (.int k)):Reads P t (Shape.int k):=by
 intro H enc w spare held fuel cs x h
 obtain⟨n,rfl,_,hw⟩:=DataW.trod_int ht h
 simp only[Lit.wf,Bool.and_eq_true,decide_eq_true_eq]at hw
 exact⟨n,rfl,hw⟩
theorem Reads.bool{P:Program}{t:TypeId}(ht:P.underlying t=some .bool):Reads P t Shape.bool:=by
 intro H enc w spare held fuel cs x h
 cases fuel with
 |zero=>simp[DataW.trod]at h
 |succ n=>
  have hc:∃b,cs=[.bool b]:=by
   unfold DataW.trod at h
   rw[ht]at h
   split at h<;>simp_all
  obtain⟨b,rfl⟩:=hc
  exact⟨b,rfl⟩
theorem Reads.str{P:Program}{t:TypeId}(ht:P.underlying t=some .string):Reads P t Shape.str:=by
 intro H enc w spare held fuel cs x h
 cases fuel with
 |zero=>simp[DataW.trod]at h
 |succ n=>
  unfold DataW.trod at h
  rw[ht]at h
  split at h<;>simp_all
  exact⟨_,rfl,h.1⟩
theorem exists_list{α:Type}{R:Nat→α→Prop}:∀(n:Nat),(∀i,i<n→∃x,R i x)→∃xs:List α,xs.length=n∧∀i x,xs[i]?=some x→R i x
 |0,_=>⟨[],rfl,fun i x h=>by simp at h⟩
 |n+1,h=>by
  obtain⟨xs,hl,hr⟩:=exists_list n fun i hi=>h i (by omega)
  obtain⟨y,hy⟩:=h n (by omega)
  refine⟨xs++[y],by simp[hl],fun i x hx=>?_⟩
  rcases Nat.lt_or_ge i xs.length with hlt | hge
  · rw[List.getElem?_append_left hlt]at hx; exact hr i x hx
  · rw[List.getElem?_append_right hge]at hx
    have h0:i-xs.length=0:=by
     have:=(List.getElem?_eq_some_iff.1 hx).1
     simpa using this
    rw[h0]at hx
    cases hx
    obtain rfl:i=n:=by omega
    exact hy
theorem Reads.slice{α:Type}{sh:Shape α}{P:Program}{t e:TypeId}(ht:P.underlying t=some (.slice e))(hc:P.cellsOf e=sh.size)(hr:Reads P e sh):Reads P t sh.slice:=by
 intro H enc w spare held fuel cs x h
 rcases DataW.trod_slice ht h with⟨rfl,_⟩|⟨a,len,cap,elems,rest,n,_,rfl,_,_, hl, hm, hlen, hel, _, _⟩
 · exact⟨[], Shape.slice_nil⟩
 · have hsp : 0<len→a.spot=none:=fun k=>by
    have d:=hel 0 k
    rw[List.getElem?_eq_getElem (by omega)]at d
    obtain⟨cs',f,_⟩:=Option.bind_eq_some_iff.1 d
    obtain⟨_,g,hcell⟩:=World.cells?_some f
    have hpos:0<P.cellsOf e:=by rw[hc];exact sh.pos
    have c:=hcell 0 hpos
    rw[List.getElem?_eq_getElem (by omega),Nat.zero_mul]at c
    have l:(a.add 0).add 0=a := by simp[Addr.add]
    rw[l]at c
    unfold World.cell? at c
    split at c
    · split at c
      · cases c
      · rename_i hs
        simpa using hs
    · cases c
   have hi : ∀ i, i <len→∃y,∃es,Cells w a.block (a.off+i*sh.size) es∧sh.rep (fun b=>b<w.heap.size) w es y∧a.spot=none:=fun i hi=>by
    have d:=hel i hi
    rw[List.getElem?_eq_getElem (by omega)]at d
    obtain⟨cs',f,c⟩:=Option.bind_eq_some_iff.1 d
    obtain⟨y,hy⟩:=hr H enc w spare held n cs' _ c
    obtain⟨_,g,hcell⟩:=World.cells?_some f
    have hpos:0<P.cellsOf e:=by rw[hc];exact sh.pos
    refine⟨y,cs',fun j v hj=>?_,hy,hsp (by omega)⟩
    have hjl:=(List.getElem?_eq_some_iff.1 hj).1
    have:=hcell j (by omega)
    rw[hj,hc]at this
    have hsp:=hsp (by omega)
    cases a with
    |mk ab ao az=>
     simp only at hsp
     subst hsp
     simpa[addr_lit,Nat.add_assoc]using this
   obtain⟨xs,hxl,hxr⟩:=exists_list len hi
   subst hxl
   refine⟨xs,some a,cap,rfl,hl,hm,fun i x hx=>?_⟩
   obtain⟨es,d,f,c⟩:=hxr i x hx
   have hb:a.block<w.heap.size:=d.lt (by rw[sh.len f];exact sh.pos)
   cases a with
   |mk ab ao az=>
    simp only at c
    subst c
    exact⟨ab,ao,es,rfl,hb,d,f⟩
def ReadsAt{α:Type}(P:Program)(fs:List Field)(o:Nat)(sh:Shape α):Prop:=
 ∀(H:Type)(enc:TypeId×Value→H)(w:World)(spare:Nat→Bool)(held:Bool)(fuel:Nat)(cs:List Value),cs.length=o+sh.size→
  (∀f∈fs,∃y,DataW.trod enc P w 0 spare held fuel f.type ((cs.drop f.offset).take (P.cellsOf f.type))=some y)→∃y,sh.rep (fun b=>b<w.heap.size) w (cs.drop o) y
theorem ReadsAt.one{α:Type}{P:Program}{f:Field}{o:Nat}{sh:Shape α}(ho:f.offset=o)(hc:P.cellsOf f.type=sh.size)(hr:Reads P f.type sh):ReadsAt P [f] o sh:=by
 intro H enc w spare held fuel cs hl h
 obtain⟨y,hy⟩:=h f (List.mem_cons_self ..)
 obtain⟨z,hz⟩:=hr H enc w spare held fuel _ _ hy
 refine⟨z,?_⟩
 rw[ho,hc,List.take_of_length_le (by rw[List.length_drop];omega)]at hz
 exact hz
theorem ReadsAt.cons{α β:Type}{P:Program}{f:Field}{fs:List Field}{o:Nat}{s:Shape α}{t:Shape β}(ho:f.offset=o)(hc:P.cellsOf f.type=s.size)(hr:Reads P f.type s)(hk:ReadsAt P fs (o+s.size) t):
 ReadsAt P (f::fs) o (Shape.pair s t):=by
 intro H enc w spare held fuel cs hl h
 obtain⟨y,hy⟩:=h f (List.mem_cons_self ..)
 obtain⟨z,hz⟩:=hr H enc w spare held fuel _ _ hy
 have hl':cs.length=o+(s.size+t.size):=hl
 obtain⟨u,hu⟩:=hk H enc w spare held fuel cs (by omega) fun f' hf'=>h f' (List.mem_cons_of_mem _ hf')
 rw[ho,hc]at hz
 refine⟨(z,u),(cs.drop o).take s.size,cs.drop (o+s.size),?_,hz,hu⟩
 rw[←List.drop_drop,List.take_append_drop]
theorem Reads.struct{α:Type}{P:Program}{t:TypeId}{fs:Array Field}{sh:Shape α}(ht:P.underlying t=some (.struct fs))(hc:P.cellsOf t=sh.size)(hr:ReadsAt P fs.toList 0 sh):Reads P t sh:=by
 intro H enc w spare held fuel cs x h
 obtain⟨xs,n,_,rfl,hl,hlen,hf⟩:=DataW.trod_struct ht h
 obtain⟨y,hy⟩:=hr H enc w spare held n cs (by omega) fun f hfm=>by
  obtain⟨i,hi,he⟩:=List.mem_iff_getElem.1 hfm
  have:=hf i f (by rw[←he];simp at hi⊢)
  rw[this]
  have hix:i<xs.length:=by simp at hi;omega
  exact⟨xs[i],by simp[hix]⟩
 exact⟨y,by simpa using hy⟩
theorem Reads.map{α β:Type}{P:Program}{t:TypeId}{s:Shape α}{f:β→α}(h:Reads P t s)(hf:∀a,∃b,f b=a):Reads P t (s.map f):=by
 intro H enc w spare held fuel cs x hx
 obtain⟨y,hy⟩:=h H enc w spare held fuel cs x hx
 obtain⟨z,rfl⟩:=hf y
 exact⟨z,hy⟩
section
variable{H:Type}{enc:TypeId×Value→H}{P:Program}{W W':World}
theorem Reads.trod{α:Type}{sh:Shape α}{t:TypeId}{sp:Nat→Bool}{hd:Bool}{v:Value}{d:DataW H}{p:List MemPlace}(hr:Reads P t sh)(h:DataW.Trod enc P W 0 sp hd t v d p):∃y,sh.rep (fun b=>b<W.heap.size) W v.cells.toList y:=by
 obtain⟨n,hn⟩:=h
 exact hr H enc W sp hd n _ _ hn
theorem Reads.sliceArg{α:Type}{sh:Shape α}{t e:TypeId}{r:Reach}{base:Nat}{sp:Nat→Bool}{hd:Bool}{v:Value}{d:DataW H}{p:List MemPlace}(hr:Reads P t sh.slice)(ht:P.underlying t=some (.slice e))(hval:Value.okWide P W r base t v)(h:DataW.Trod enc P W 0 sp hd t v d p):
 ∃(a:Option Addr)(xs:List α)(c:Nat),v=.slice a xs.length c∧sh.slice.rep (fun b=>b<W.heap.size) W [.slice a xs.length c] xs:=by
 obtain⟨a,len,cap,rfl⟩:=okWide_slice ht hval
 obtain⟨xs,hx⟩:=hr.trod h
 obtain⟨a',c',he⟩:=Shape.slice_form hx
 simp only[Value.slice.injEq]at he
 obtain⟨rfl,rfl,rfl⟩:=he
 exact⟨a,xs,cap,rfl,hx⟩
theorem trodAll_stays(hl:laidOutB P=true)(hb:Below W.heap.size W W'){sp:Nat→Bool}:∀{ts:List TypeId}{vs:List Value}{ds:List (DataW H)}{p:List MemPlace},(∀t∈ts,P.readableRec t=true∧t<P.types.size)→(∀x∈p,x.block<W.heap.size)→(∀x∈p,sp x.block=true)→
 DataW.TrodAll enc P W 0 (fun _=>true) true ts vs ds p→DataW.TrodAll enc P W' 0 sp true ts vs ds p
 |[],[],[],_,_,_,_,h=>h
 |[],[],_::_,_,_,_,_,h=>h.elim
 |[],_::_,_,_,_,_,_,h=>h.elim
 |_::_,[],_,_,_,_,_,h=>h.elim
 |_::_,_::_,[],_,_,_,_,h=>h.elim
 |t::ts,v::vs,d::ds,_,ht,hlt,hs,h=>by
  obtain⟨p,q,h1,h2,rfl⟩:=h
  exact⟨p,q,WideElems.Trod_stays hl (ht t (List.mem_cons_self ..)).1 (ht t (List.mem_cons_self ..)).2 h1 (fun x hx=>hb.same (hlt x (List.mem_append_left _ hx))) (fun x hx=>hs x (List.mem_append_left _ hx)),
   trodAll_stays hl hb (fun t ht'=>ht t (List.mem_cons_of_mem _ ht')) (fun x hx=>hlt x (List.mem_append_right _ hx)) (fun x hx=>hs x (List.mem_append_right _ hx)) h2,rfl⟩
theorem params_ok{ts:List TypeId}(h:(ts.all fun t=>P.readableRec t&&Nat.blt t P.types.size)=true):∀t∈ts,P.readableRec t=true∧t<P.types.size:=fun t ht=>by
 have h1:=List.all_eq_true.1 h t ht
 simp only[Bool.and_eq_true,Nat.blt,Nat.ble_eq]at h1
 exact⟨h1.1,h1.2⟩
theorem post_true{f:Func}{s:ChangeSpec}{fresh handsOn again:Bool}{args:Array Value}{ds gs:List (DataW H)}{before:List MemPlace}{tb:TypeId}(hl:laidOutB P=true)
 (hps:∀t∈f.params.toList,P.readableRec t=true∧t<P.types.size)(hv:s.vars=[])(hW:DataW.Whole enc P f.params.toList s.vars false W args.toList ds gs before)(hb:Ext W W')
 (hfn:s.fn H (ds++gs)={results:=[.lit (.bool true)],args:=ds})(hrt:f.resultTypes=#[tb])(htb:P.underlying tb=some .bool):s.post enc P f false fresh handsOn again W args (.bool true) W':=by
 have hW':=hW
 obtain⟨p,q,hA,hV,rfl,hfz,hnd⟩:=hW
 rw[hv]at hV
 obtain⟨rfl,rfl⟩:=trodVars_none hV
 have hlt:∀x∈p,x.block<W.heap.size:=fun x hx=>hW'.lt x (List.mem_append_left _ hx)
 have hres:∀(b:Nat)(sp:Nat→Bool)(hd:Bool),DataW.TrodAll enc P W' b sp hd f.resultTypes.toList ((Value.bool true).resultList f.resultTypes.size) (s.fn H (ds++[])).results []:=fun b sp hd=>by
  rw[hfn,hrt]
  exact⟨[],[],shut_bool htb true,rfl,rfl⟩
 have hargs:∀sp:Nat→Bool,(∀x∈p,sp x.block=true)→DataW.TrodAll enc P W' 0 sp true f.params.toList args.toList (s.fn H (ds++[])).args p:=fun sp hs=>by
  rw[hfn]
  exact trodAll_stays hl hb hps hlt hs hA
 have hvars:∀sp:Nat→Bool,DataW.TrodVars enc P W' sp s.vars (s.fn H (ds++[])).vars []:=fun sp=>by
  rw[hv,hfn]
  rfl
 rw[List.append_nil]at hW' hfz hnd
 refine⟨ds,[],p,[],p,[],hW',hres _ _ _,hargs _ (fun x hx=>by simpa using hlt x hx),hvars _,World.keptBut_mono (fun x hx=>⟨hx,.inr (.inl hx)⟩) (hb.frame _),fun _=>?_⟩
 refine⟨ok_one hrt rfl (okWide_bool_mk htb true),_,_,([]++p)++[],⟨[]++ p, [], trodAll_append (hargs _ (fun _ _ => rfl)) (hres _ _ _), hvars _, rfl, ?_, ?_⟩, ?_⟩
 · intro b off hp
   have hp : MemPlace.cell b off ∈ p := by simpa using hp
   have hblk := hlt _ hp
   rw[hb.frozen (p :=⟨b, off, none⟩) hblk]
   exact hfz b off hp
 · intro h
   cases h
 · intro x hx _
   simpa using hx
end
end Go.BX

/-
 THE ENGINE's BRIDGE: numbers of 8 and 32 bits.
 No condition.
-/
namespace Go.BX
theorem Reads.bv8{P:Program}{t:TypeId}(ht:P.underlying t=some (.int .u8)):Reads P t (Shape.bv .u8 8):=by
 intro H enc w spare held fuel cs x h
 obtain⟨n,rfl,a,b⟩:=Reads.int ht H enc w spare held fuel cs x h
 have h0':0≤n:=a
 have h1':n≤255:=b
 refine⟨BitVec.ofInt 8 n,?_⟩
 show[Value.int .u8 n]=[.int .u8 _]
 rw[BitVec.toNat_ofInt,Int.toNat_of_nonneg (Int.emod_nonneg _ (by decide))]
 congr 2
 simp only[Nat.reducePow]
 omega
end Go.BX

