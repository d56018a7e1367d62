import Derived.Test.YtdnibpclkhenmaaGreatDoorSBxA
import Derived.Laws.IdiomRangeMap
import Derived.MapKept
import Derived.LaidEqlPtr
import Derived.Laws.Externs
import Derived.ProofKit
import Derived.Deep.Slices
/-
  THE ENGINE: a judgement on a frame whose slots are known by a list, over any program; laws for each operation.
  No condition.
-/
/-
 THE ENGINE's MAPS: a map that the call has to itself, as a list of (key, element, stamp).
 No condition.
-/
namespace Go.BX
open Go.RowKit(Below)
def ent{α β:Type}(mk:α→Value)(vk:β→Value)(x:α×β×Nat):MapEntry:=⟨mk x.1,vk x.2.1,x.2.2⟩
def mapO{α β:Type}(mk:α→Value)(vk:β→Value)(L:List (α×β×Nat))(c:Nat):Obj:=.map (L.map (ent mk vk)).toArray c
def iterO{α β:Type}(b since:Nat)(dn:List (α×β×Nat))(last:Nat):Obj:=.mapIter (some b) since (dn.map (·.2.2)).toArray last
section
variable{α β:Type}[DecidableEq α]
def mfind(x:α):List (α×β×Nat)→Option β
 |[]=>none
 |e::l=>if e.1=x then some e.2.1 else mfind x l
def mset(x:α)(v:β)(c:Nat):List (α×β×Nat)→List (α×β×Nat)
 |[]=>[(x,v,c)]
 |e::l=>if e.1=x then(x,v,e.2.2)::l else e::mset x v c l
def mdel(x:α):List (α×β×Nat)→List (α×β×Nat)
 |[]=>[]
 |e::l=>if e.1=x then l else e::mdel x l
def mclk(x:α)(c:Nat)(L:List (α×β×Nat)):Nat:=if(mfind x L).isSome then c else c+1
def midx(x:α):List (α×β×Nat)→Option Nat
 |[]=>none
 |e::l=>if e.1=x then some 0 else(midx x l).map (·+1)
end
structure KeyOk{α:Type}[DecidableEq α](P:Program)(K:TypeId)(mk:α→Value):Prop where
 und:∃d,P.underlying K=some d∧((∀a b,Instr.sameNow d (mk a) (mk b)=some (decide (a=b)))∨((∀a b,Instr.sameNow d (mk a) (mk b)=none)∧∀a b w,(Op.equal K (mk a) (mk b)).run P w=.ok (decide (a=b)) w))
 stays:∀a,Instr.sameBits 10000 (mk a) (mk a)=true
 check:∀(w:World)(b:Bool)(a:α),(Instr.checkKey b 10000 K (mk a)).run P w=.ok () w
theorem checkKey_int{P:Program}{K:TypeId}{k:IntKind}(h:P.underlying K=some (.int k)):∀(n:Nat)(b:Bool)(a:Int)(w:World),(Instr.checkKey b (n+1) K (.int k a)).run P w=.ok () w:=fun n b a w=>by
 simp[Instr.checkKey,run_underlying h]
theorem checkKey_str{P:Program}{K:TypeId}(h:P.underlying K=some .string):∀(n:Nat)(b:Bool)(a:ByteArray)(w:World),(Instr.checkKey b (n+1) K (.string a)).run P w=.ok () w:=fun n b a w=>by
 simp[Instr.checkKey,run_underlying h]
theorem beqB(a b:ByteArray):(a==b)=decide (a=b):=by
 rw[Bool.eq_iff_iff,MapKept.bytes_beq,decide_eq_true_iff]
theorem KeyOk.int{P:Program}{K:TypeId}{k:IntKind}(h:P.underlying K=some (.int k)):KeyOk P K (Value.int k)where
 und:=⟨_,h,.inl fun a b=>by simp[Instr.sameNow];rfl⟩
 stays a:=by simp[Instr.sameBits]
 check w b a:=checkKey_int h 9999 b a w
theorem KeyOk.str{P:Program}{K:TypeId}(h:P.underlying K=some .string):KeyOk P K Value.string where
 und:=⟨_,h,.inl fun a b=>congrArg some (beqB a b)⟩
 stays a:=by simp only[Instr.sameBits,beqB,decide_true]
 check w b a:=checkKey_str h 9999 b a w
section
variable{α β:Type}[DecidableEq α]{P:Program}{K:TypeId}{mk:α→Value}{vk:β→Value}{w:World}
theorem findNow_mid{d:TypeDesc}(h:∀a b,Instr.sameNow d (mk a) (mk b)=some (decide (a=b)))(x:α):∀(L:List (α×β×Nat))(i:Nat),
 Instr.findNow d (mk x) (L.map (ent mk vk)) i=some ((midx x L).bind fun j=>(mfind x L).map fun v=>(i+j,vk v))
 |[],i=>rfl
 |e::l,i=>by
  have hc:=h x e.1
  simp only[List.map_cons,Instr.findNow,ent,hc,midx,mfind]
  by_cases he:e.1= x
  · simp[he]
  · have hx : ¬x=e.1:=fun hh=>he hh.symm
    have ih:=findNow_mid h x l (i+1)
    simp only[he,hx,decide_false,if_false]
    change Instr.findNow d (mk x) (l.map (ent mk vk)) (i+1)=_
    rw[ih]
    cases midx x l with
    |none=>rfl
    |some j=>cases mfind x l<;>simp[Nat.add_assoc,Nat.add_comm 1]
theorem midx_find(x:α):∀(L:List (α×β×Nat)),(midx x L).isSome=(mfind x L).isSome
 |[]=>rfl
 |e::l=>by
  simp only[midx,mfind]
  split
  ·rfl
  ·rw[Option.isSome_map,midx_find x l]
theorem findAsking_mid(h:∀a b w,(Op.equal K (mk a) (mk b)).run P w=.ok (decide (a=b)) w)(x:α):∀(L:List (α×β×Nat))(i:Nat)(w:World),
 (Instr.findAsking K (mk x) (L.map (ent mk vk)) i).run P w=.ok ((midx x L).bind fun j=>(mfind x L).map fun v=>(i+j,vk v)) w
 |[],i,w=>rfl
 |e::l,i,w=>by
  have hc:=h x e.1 w
  simp only[List.map_cons,Instr.findAsking,ent,Sem.run_bind,hc,Result.andThen_ok,midx,mfind]
  by_cases he:e.1= x
  · simp[he]
  · have hx : ¬x=e.1:=fun hh=>he hh.symm
    have ih:=findAsking_mid h x l (i+1) w
    simp only[he,hx,decide_false,if_false,Bool.false_eq_true]
    change(Instr.findAsking K (mk x) (l.map (ent mk vk)) (i+1)).run P w=_
    rw[ih]
    cases midx x l with
    |none=>rfl
    |some j=>cases mfind x l<;>simp[Nat.add_assoc,Nat.add_comm 1]
omit [DecidableEq α] in
theorem findNow_no{d:TypeDesc}(h:∀a b,Instr.sameNow d (mk a) (mk b)=none)(x:α)(L:List (α×β×Nat))(i:Nat):
 Instr.findNow d (mk x) (L.map (ent mk vk)) i=if L=[]then some none else none:=by
 cases L with
 |nil=>rfl
 |cons e l=>
  have hc:=h x e.1
  simp only[List.map_cons,Instr.findNow,ent,hc]
  rfl
theorem findKey_run(hk:KeyOk P K mk)(x:α)(L:List (α×β×Nat))(w:World):
 (Instr.findKey K (mk x) (L.map (ent mk vk))).run P w=.ok ((midx x L).bind fun j=>(mfind x L).map fun v=>(j,vk v)) w:=by
 obtain⟨d,hd,hs |⟨hn, hs⟩⟩:= hk.und
 · have:=findNow_mid (vk:=vk) hs x L 0
   simp only[Nat.zero_add]at this
   simp[Instr.findKey,run_underlying hd,this]
 · have b := findNow_no (vk:=vk) hn x L 0
   have a:=findAsking_mid (vk:=vk) hs x L 0 w
   simp only[Nat.zero_add]at a
   simp only[Instr.findKey,Sem.run_bind,run_underlying hd,Result.andThen_ok,b]
   by_cases hL:L=[]
   · subst hL; rfl
   · simp only[hL, if_false]
     exact a
theorem modify_mset(x:α)(v:β)(c:Nat):∀(L:List (α×β×Nat))(i:Nat),midx x L=some i→
 (L.map (ent mk vk)).modify i (fun e=>{e with key:=mk x,val:=vk v})=(mset x v c L).map (ent mk vk)
 |e::l,i,h=>by
  simp only[midx,mset]at h⊢
  by_cases he:e.1 = x
  · rw[if_pos he]at h ⊢
    cases h
    rfl
  · rw[if_neg he]at h ⊢
    cases hm :midx x l with
    |none=>rw[hm]at h;cases h
    |some j=>
     rw[hm]at h
     cases h
     simp[modify_mset x v c l j hm]
theorem push_mset(x:α)(v:β)(c:Nat):∀(L:List (α×β×Nat)),midx x L=none→mset x v c L=L++[(x,v,c)]
 |[],_=>rfl
 |e::l,h=>by
  simp only[midx,mset]at h⊢
  by_cases he:e.1=x
  ·rw[if_pos he]at h;cases h
  · rw[if_neg he]at h ⊢
    rw[push_mset x v c l (by simpa using h)]; rfl
theorem erase_mdel(x:α):∀(L:List (α×β×Nat))(i:Nat),midx x L=some i→(L.map (ent mk vk)).eraseIdx i=(mdel x L).map (ent mk vk)
 |e::l,i,h=>by
  simp only[midx,mdel]at h⊢
  by_cases he:e.1=x
  · rw[if_pos he]at h ⊢
    cases h
    rfl
  · rw[if_neg he]at h⊢
    cases hm:midx x l with
    |none=>rw[hm]at h;cases h
    |some j=>
     rw[hm]at h
     cases h
     simp[erase_mdel x l j hm]
theorem mdel_none(x:α):∀(L:List (α×β×Nat)),midx x L=none→mdel x L=L
 |[],_=>rfl
 |e::l,h=>by
  simp only[midx,mdel]at h⊢
  by_cases he:e.1=x
  ·rw[if_pos he]at h; cases h
  · rw[if_neg he]at h ⊢
    rw[mdel_none x l (by simpa using h)]
theorem getObj_run{b:Nat}{es:Array MapEntry}{c:Nat}(h:w.heap[b]?=some (.map es c)):(getObj b).run P w=.ok (.map es c) w:=by
 simp[getObj,Sem.run,h]
theorem setObj_run{b:Nat}{es:Array MapEntry}{c:Nat}{o':Obj}(h:w.heap[b]?=some (.map es c)):(setObj b o').run P w=.ok () {w with heap:=w.heap.setIfInBounds b o'}:=by
 simp[setObj,Sem.run,h]
theorem lookup_run(hk:KeyOk P K mk){T E:TypeId}(hT:P.underlying T=some (.map K E)){z:β}(hz:∀w,(zeroValue E).run P w=.ok (vk z) w){b c:Nat}{L:List (α×β×Nat)}(x:α)(ok:Bool)(hb:w.heap[b]?=some (mapO mk vk L c)):
 (Instr.lookup T (.map (some b)) (mk x) ok).run P w=.ok (if ok then .tuple #[vk ((mfind x L).getD z),.bool (mfind x L).isSome]else vk ((mfind x L).getD z)) w:=by
 have a:=midx_find x L
 have d:=findKey_run (vk:=vk) hk x L w
 simp only[Instr.lookup,Sem.run_bind,run_underlying hT,Result.andThen_ok,getObj_run hb,mapO,hk.check,d,Sem.run_pure]
 cases hm:mfind x L with
 |none=>
  rw[hm]at a
  cases hi:midx x L with
  |none=>simp[hz]
  |some j=>rw[hi]at a;cases a
 |some v=>
  rw[hm]at a
  cases hi:midx x L with
  |none=>rw[hi]at a;cases a
  |some j=>simp
theorem update_run(hk:KeyOk P K mk){T E:TypeId}(hT:P.underlying T=some (.map K E)){b c:Nat}{L:List (α×β×Nat)}(x:α)(v:β)(hb:w.heap[b]?=some (mapO mk vk L c)):
 (Instr.mapUpdate T (.map (some b)) (mk x) (vk v)).run P w=.ok () {w with heap:=w.heap.setIfInBounds b (mapO mk vk (mset x v c L) (mclk x c L))}:=by
 have a:=midx_find x L
 have d:=findKey_run (vk:=vk) hk x L w
 simp only[Instr.mapUpdate,Sem.run_bind,run_underlying hT,Result.andThen_ok,getObj_run hb,mapO,hk.check,d]
 unfold mclk
 cases hm:mfind x L with
 |none=>
  rw[hm]at a
  cases hi:midx x L with
  |none=>
   simp only[Option.bind_none,Option.isSome_none,Bool.false_eq_true,if_false,setObj_run hb,push_mset x v c L hi]
   simp[ent]
  |some j=>rw[hi]at a;cases a
 |some v0=>
  rw[hm]at a
  cases hi:midx x L with
  |none=>rw[hi]at a;cases a
  |some j=>
   have hj:∃e,L[j]?=some e∧e.1=x:=by
    clear a d hm hb
    induction L generalizing j with
    |nil=>cases hi
    |cons e l ih=>
     simp only[midx]at hi
     split at hi
     ·cases hi;exact⟨e,rfl,by assumption⟩
     ·cases hm:midx x l with
       |none=>rw[hm]at hi;cases hi
       |some i=>rw[hm]at hi;cases hi;exact ih i hm
   obtain⟨e,he,hex⟩:=hj
   have hs:=hk.stays x
   have hmod:((L.map (ent mk vk)).toArray.modify j fun e=>{e with key:=mk x,val:=vk v})=((mset x v c L).map (ent mk vk)).toArray:=by
    apply Array.toList_inj.1
    rw[Array.toList_modify]
    exact modify_mset x v c L j hi
   simp only[Option.bind_some,Option.map_some,List.getElem?_toArray,List.getElem?_map,he,ent,Option.getD_some,hex,Instr.keyThatStays,hs,if_true,Sem.run_pure,Result.andThen_ok,Option.isSome_some,setObj_run hb,pure_bind]
   simp only[←hmod,ent]
theorem delete_run(hk:KeyOk P K mk){T E:TypeId}(hT:P.underlying T=some (.map K E)){b c:Nat}{L:List (α×β×Nat)}(x:α){ts:Array TypeId}(t:TypeId)(ht:ts[0]?=some T)(hb:w.heap[b]?=some (mapO mk vk L c)):
 (Builtin.delete_ ts t #[.map (some b),mk x]).run P w=.ok (.tuple #[]) {w with heap:=w.heap.setIfInBounds b (mapO mk vk (mdel x L) c)}:=by
 have a:=midx_find x L
 have d:=findKey_run (vk:=vk) hk x L w
 simp only[Builtin.delete_,ht,List.getElem?_toArray,List.getElem?_cons_zero,List.getElem?_cons_succ,Sem.run_bind,run_underlying hT,Result.andThen_ok,getObj_run hb,mapO,hk.check,d]
 cases hm:mfind x L with
 |none=>
  rw[hm]at a
  cases hi:midx x L with
  |none=>simp[setObj_run hb,mdel_none x L hi]
  |some j=>rw[hi]at a;cases a
 |some v0=>
  rw[hm]at a
  cases hi:midx x L with
  |none=>rw[hi]at a;cases a
  |some j=>
   have he:(L.map (ent mk vk)).toArray.eraseIdxIfInBounds j=((mdel x L).map (ent mk vk)).toArray:=by
    apply Array.toList_inj.1
    rw[Array.toList_eraseIdxIfInBounds]
    exact erase_mdel x L j hi
   simp[setObj_run hb,he]
omit [DecidableEq α] in
theorem lenMap_run{T E:TypeId}(hT:P.underlying T=some (.map K E)){b c:Nat}{L:List (α×β×Nat)}{ts:Array TypeId}(t:TypeId)(ht:ts[0]?=some T)(hb:w.heap[b]?=some (mapO mk vk L c)):
 (Builtin.len_ ts t #[.map (some b)]).run P w=.ok (.int .i64 (L.length:Int)) w:=by
 simp[Builtin.len_,ht,run_underlying hT,getObj_run hb,mapO,goInt]
end
theorem next_run{P:Program}{w:World}{r bm since c0 clock:Nat}{seen:Array Nat}{es:Array MapEntry}(ty:TypeId)(hr:w.heap[r]?=some (.mapIter (some bm) since seen c0))(hb:w.heap[bm]?=some (.map es clock))(hold:∀x∈es.toList,x.born<since)(hsc:since≤c0):
 ((leftOf es seen).size=0∧(Instr.next (.pointer (some ⟨r,0,none⟩)) false ty).run P w=.ok (.tuple #[.bool false]) w)∨
 ∃e∈(leftOf es seen).toList,∃w1:World,(w1=w∨w1=w.drew)∧(Instr.next (.pointer (some ⟨r,0,none⟩)) false ty).run P w=.ok (.tuple #[.bool true,e.key,e.val]) {w1 with heap:=w1.heap.setIfInBounds r (.mapIter (some bm) since (seen.push e.born) clock)}:=by
 simp only[Instr.next,getObj,Sem.run_bind,Sem.run,hr,hb,Result.andThen,next_test_false seen es since c0 hold hsc,Bool.false_eq_true,if_false]
 unfold leftOf
 have hmem:∀x∈(Array.filter (fun e=>!seen.contains e.born) es).toList,x.born<since:=fun x hx=>hold x (by simp at hx⊢;exact hx.1)
 generalize Array.filter (fun e=>!seen.contains e.born) es=L at hmem⊢
 have b:L.filter (fun x=>decide (x.born<since))=L:=Array.filter_eq_self.2 (fun x hx=>by simpa using hmem x (by simpa using hx))
 have c:L.filter (fun x=>decide (x.born≥since))=#[]:=by
  rw[Array.filter_eq_empty_iff]
  intro x hx
  have:=hmem x (by simpa using hx)
  simp
  omega
 simp only[b,c,Array.append_empty]
 by_cases h0:L.size= 0
 · left
   have : L =#[] := Array.eq_empty_of_size_eq_zero h0
   subst this
   refine⟨rfl, ?_⟩
   simp[choose, Sem.run, Question.forced]
 · right
   have hne : L.isEmpty=false:=by simp[Array.isEmpty,h0]
   simp only[hne,Bool.false_eq_true,if_false,Array.empty_append,Array.size_map]
   have hch:∃(j:Nat)(w1:World),j<L.size∧(w1=w∨w1=w.drew)∧(choose (Question.mapNext L.size)).run P w=.ok j w1:=by
    by_cases hf:L.size≤1
    ·exact⟨0,w,by omega,.inl rfl,by simp[choose,Sem.run,Question.forced,hf]⟩
    ·exact⟨_,w.drew,Nat.mod_lt _ (by omega),.inr rfl,by
       simp only[choose,Sem.run,Question.forced,decide_eq_true_eq,hf,if_false,Question.cut]
       rfl⟩
   obtain⟨j,w1,hj,hal,hrun⟩:=hch
   refine⟨L[j],by simp,w1,hal,?_⟩
   have a:w1.heap[r]?=some (.mapIter (some bm) since seen c0):=by rcases hal with rfl|rfl<;>exact hr
   simp only[hrun,Array.getElem?_map,Array.getElem?_eq_getElem hj,Option.map_some,Sem.run_bind,setObj,Sem.run,a,Result.andThen]
   rfl
theorem entry_run{P:Program}{w:World}{r bm since clock:Nat}{seen:Array Nat}{es:Array MapEntry}{e:MapEntry}(hr:w.heap[r]?=some (.mapIter (some bm) since (seen.push e.born) clock))(hb:w.heap[bm]?=some (.map es clock))(he:e∈es.toList)(hn:(es.toList.map (·.born)).Nodup):
 (Instr.entry (.pointer (some ⟨r,0,none⟩))).run P w=.ok (.tuple #[e.key,e.val]) w:=by
 have hf:es.find? (·.born==e.born)=some e:=by rw[←Array.find?_toList];exact find_born e es.toList hn he
 simp only[Instr.entry,getObj,Sem.run_bind,Sem.run,hr,hb,Result.andThen,Array.back?_push,bne_self_eq_false,Bool.false_eq_true,if_false,hf]
 rfl
theorem cont_f(l:List Nat)(b:Nat):(l.toArray.contains b=false)↔b∉l:=by simp
theorem range_run{P:Program}{w:World}{T K E:TypeId}{bm clock:Nat}{es:Array MapEntry}(hT:P.underlying T=some (.map K E))(hb:w.heap[bm]?=some (.map es clock)):
 (Instr.range T (.map (some bm))).run P w=.ok (.pointer (some ⟨w.heap.size,0,none⟩)) {w with heap:=w.heap.push (.mapIter (some bm) clock #[] clock)}:=by
 simp[Instr.range,run_underlying hT,getObj_run hb]
section
variable{α β:Type}{P:Program}{n:Nat}{ds:List Deferred}{ops:Array Oper}{K:Env→World→Prop}{l r:List (Nat×Kd)}{σ:Env}{w:World}{κ:Kd}{d:Option Tmp}
variable{w0:World}{S:Nat→Prop}{O:List Nat}{M M':Heap}{W:List OwnS}{G:List Fact}{mk:α→Value}{vk:β→Value}{L:List (α×β×Nat)}{b c:Nat}{T:TypeId}
theorem RW.mapGet[DecidableEq α]{Kt E:TypeId}{z:β}(x:α)(ok:Bool)(hl:look P n ops l σ=some (κ,semV (Instr.lookup T (.map (some b)) (mk x) ok),d,r))(H:Hp w0 S O M W G w)(i:Nat)(hm:M[i]?=some (b,mapO mk vk L c))
 (hk:KeyOk P Kt mk)(hT:P.underlying T=some (.map Kt E))(hz:∀w,(zeroValue E).run P w=.ok (vk z) w)
 (h:RW P ops n ds K r (putO d (if ok then .tuple #[vk ((mfind x L).getD z),.bool (mfind x L).isSome]else vk ((mfind x L).getD z)) σ) w):RW P ops n ds K l σ w:=by
 have hb:=(H.own _ (List.mem_of_getElem? hm)).1
 have hlt:=(Array.getElem?_eq_some_iff.1 hb).1
 exact RW.readS hl (fun w' he=>semV_run (lookup_run hk hT hz x ok (by rw[Below.block he b hlt];exact hb))) h
theorem RW.mapLen{E Kt:TypeId}{ts:Array TypeId}{t:TypeId}(hl:look P n ops l σ=some (κ,semV (Builtin.len_ ts t #[.map (some b)]),d,r))(H:Hp w0 S O M W G w)(i:Nat)(hm:M[i]?=some (b,mapO mk vk L c))
 (ht:ts[0]?=some T)(hT:P.underlying T=some (.map Kt E))
 (h:RW P ops n ds K r (putO d (.int .i64 (L.length:Int)) σ) w):RW P ops n ds K l σ w:=by
 have hb:=(H.own _ (List.mem_of_getElem? hm)).1
 have hlt:=(Array.getElem?_eq_some_iff.1 hb).1
 exact RW.readS hl (fun w' he=>semV_run (lenMap_run hT t ht (by rw[Below.block he b hlt];exact hb))) h
theorem RW.mapSet[DecidableEq α]{Kt E:TypeId}(x:α)(v:β)(hl:look P n ops l σ=some (.seq,semU (Instr.mapUpdate T (.map (some b)) (mk x) (vk v)),d,r))(H:Hp w0 S O M W G w)(i:Nat)(hm:M[i]?=some (b,mapO mk vk L c))
 (hk:KeyOk P Kt mk)(hT:P.underlying T=some (.map Kt E))(hM:M.set i (b,mapO mk vk (mset x v c L) (mclk x c L))=M')
 (h:∀w',Chg w [b] w'→Hp w0 S O M' W G w'→RW P ops n ds K r (putO d undef σ) w'):RW P ops n ds K l σ w:=by
 subst hM
 have hb:=(H.own _ (List.mem_of_getElem? hm)).1
 exact RW.actU hl (semU_run (update_run hk hT x v hb)) (h _ ⟨rfl,rfl,rfl,by simp,fun q _ hq=>(Array.getElem?_setIfInBounds_ne (fun e=>hq (by simp[e])):(w.heap.setIfInBounds b _)[q]?=_)⟩ (H.put i hm _))
theorem RW.mapDel[DecidableEq α]{Kt E:TypeId}{ts:Array TypeId}{t:TypeId}(x:α)(hl:look P n ops l σ=some (.seq,semV (Builtin.delete_ ts t #[.map (some b),mk x]),d,r))(H:Hp w0 S O M W G w)(i:Nat)(hm:M[i]?=some (b,mapO mk vk L c))
 (hk:KeyOk P Kt mk)(ht:ts[0]?=some T)(hT:P.underlying T=some (.map Kt E))(hM:M.set i (b,mapO mk vk (mdel x L) c)=M')
 (h:∀w',Chg w [b] w'→Hp w0 S O M' W G w'→RW P ops n ds K r (putO d (.tuple #[]) σ) w'):RW P ops n ds K l σ w:=by
 subst hM
 have hb:=(H.own _ (List.mem_of_getElem? hm)).1
 exact RW.actV hl (semV_run (delete_run hk hT x t ht hb)) (h _ ⟨rfl,rfl,rfl,by simp,fun q _ hq=>(Array.getElem?_setIfInBounds_ne (fun e=>hq (by simp[e])):(w.heap.setIfInBounds b _)[q]?=_)⟩ (H.put i hm _))
theorem RW.mapRange{Kt E:TypeId}(hl:look P n ops l σ=some (κ,semV (Instr.range T (.map (some b))),d,r))(hκ:κ≠.qui)(H:Hp w0 S O M W G w)(i:Nat)(hm:M[i]?=some (b,mapO mk vk L c))(hT:P.underlying T=some (.map Kt E))
 (h:∀q w',w.heap.size≤q→Hp w0 S O ((q,iterO (α:=α) (β:=β) b c [] c)::M) W G w'→RW P ops n ds K r (putO d (.pointer (some ⟨q,0,none⟩)) σ) w'):RW P ops n ds K l σ w:=by
 have hb:=(H.own _ (List.mem_of_getElem? hm)).1
 exact RW.makeS hl hκ (semV_run (range_run hT hb)) ⟨rfl,rfl,rfl,by simp,fun k hk=>by
  show(w.heap.push _)[k]?=_
  rw[Array.getElem?_push,if_neg (by omega)]⟩ (h _ _ (Nat.le_refl _) (H.alloc _))
theorem RW.mapNext{q since last:Nat}{dn lf:List (α×β×Nat)}{ty:TypeId}(hl:look P n ops l σ=some (.seq,semV (Instr.next (.pointer (some ⟨q,0,none⟩)) false ty),d,r))(H:Hp w0 S O M W G w)(i:Nat)(hm:M[i]?=some (b,mapO mk vk L c))
 (j:Nat)(hj:M[j]?=some (q,iterO b since dn last))(hp:(dn++lf).Perm L)(hn:(L.map (·.2.2)).Nodup)(hold:∀x∈L,x.2.2<since)(hsc:since≤last)
 (hover:lf=[]→RW P ops n ds K r (putO d (.tuple #[.bool false]) σ) w)
 (hstep:∀e lf',lf.Perm (e::lf')→∀w',Hp w0 S O (M.set j (q,iterO b since (dn++[e]) c)) W G w'→RW P ops n ds K r (putO d (.tuple #[.bool true,mk e.1,vk e.2.1]) σ) w'):RW P ops n ds K l σ w:=by
 have hb:=(H.own _ (List.mem_of_getElem? hm)).1
 have hr:=(H.own _ (List.mem_of_getElem? hj)).1
 have hn':((dn++lf).map (·.2.2)).Nodup:=(hp.map _).nodup_iff.2 hn
 have hlft:∀x:MapEntry,x∈(leftOf (L.map (ent mk vk)).toArray (dn.map (·.2.2)).toArray).toList↔∃e∈lf,ent mk vk e=x:=by
  intro x
  unfold leftOf
  simp only[Array.toList_filter,List.mem_filter,List.mem_map, Bool.not_eq_true', cont_f]
  constructor
  · rintro⟨⟨e, he, rfl⟩, hnot⟩
    refine⟨e, ?_, rfl⟩
    rcases List.mem_append.1 (hp.mem_iff.2 he)with h | h
    · exact absurd ⟨e, h, rfl⟩ hnot
    · exact h
  · rintro⟨e, he, rfl⟩
    refine⟨⟨e, hp.mem_iff.1 (List.mem_append_right _ he), rfl⟩, ?_⟩
    rintro⟨e', he', heq⟩
    rw[List.map_append, List.nodup_append]at hn'
    exact hn'.2.2 _ (List.mem_map.2 ⟨e', he',rfl⟩) _ (List.mem_map.2 ⟨e,he,rfl⟩) heq
 rcases next_run (P:=P) ty hr hb (fun x hx=>by
  obtain⟨e,he,rfl⟩:=List.mem_map.1 hx
  exact hold e he) hsc with⟨h0,hrun⟩|⟨x,hx, w1, hw1, hrun⟩
 · have hnil : lf = [] := by
    cases lf with
    | nil =>rfl
    |cons e l'=>
     have:=(hlft (ent mk vk e)).2 ⟨e,List.mem_cons_self ..,rfl⟩
     have hz:(leftOf (L.map (ent mk vk)).toArray (dn.map (·.2.2)).toArray).toList=[]:= by rw[← List.length_eq_zero_iff, Array.length_toList]; exact h0
     rw[hz]at this
     cases this
   exact RW.actV hl (semV_run hrun) (hover hnil)
 · obtain⟨e, he, rfl⟩:= (hlft x).1 hx
   obtain⟨s, t, rfl⟩:= List.append_of_mem he
   have hseen :((dn.map (·.2.2)).toArray.push (ent mk vk e).born)=((dn++[e]).map (·.2.2)).toArray:=by simp[ent]
   rw[hseen]at hrun
   refine RW.actV hl (semV_run hrun) (hstep e (s++t) List.perm_middle _ ?_)
   rcases hw1 with rfl|rfl
   ·exact H.put j hj _
   ·exact H.draw.put j hj _
theorem RW.mapEntry{q since:Nat}{dn:List (α×β×Nat)}{e:α×β×Nat}(hl:look P n ops l σ=some (κ,semV (Instr.entry (.pointer (some ⟨q,0,none⟩))),d,r))(H:Hp w0 S O M W G w)(i:Nat)(hm:M[i]?=some (b,mapO mk vk L c))
 (j:Nat)(hj:M[j]?=some (q,iterO b since (dn++[e]) c))(he:e∈L)(hn:(L.map (·.2.2)).Nodup)
 (h:RW P ops n ds K r (putO d (.tuple #[mk e.1,vk e.2.1]) σ) w):RW P ops n ds K l σ w:=by
 have hb:=(H.own _ (List.mem_of_getElem? hm)).1
 have hlt:=(Array.getElem?_eq_some_iff.1 hb).1
 have hr:=(H.own _ (List.mem_of_getElem? hj)).1
 have hlr:=(Array.getElem?_eq_some_iff.1 hr).1
 have hseen:((dn++[e]).map (·.2.2)).toArray=((dn.map (·.2.2)).toArray.push (ent mk vk e).born):=by simp[ent]
 exact RW.readS hl (fun w' hx=>semV_run (entry_run (e:=ent mk vk e) (seen:=(dn.map (·.2.2)).toArray) (by rw[Below.block hx q hlr,←hseen];exact hr) (by rw[Below.block hx b hlt];exact hb) (by simpa using List.mem_map.2 ⟨e,he,rfl⟩) (by simpa[ent,Function.comp_def]using hn))) h
end
def zeroE(P:Program)(E:TypeId):Option Value:=match P.info? E with
 |some i=>i.zero
 |none=>none
theorem zeroE_run{P:Program}{E:TypeId}{z:Value}(h:zeroE P E=some z)(w:World):(zeroValue E).run P w=.ok z w:=by
 unfold zeroE at h
 split at h
 · rename_i i hi
   simp[zeroValue, typeInfo,hi,h]
 ·cases h
structure MOk{α β:Type}(L:List (α×β×Nat))(c:Nat):Prop where
 keys:(L.map (·.1)).Nodup
 borns:(L.map (·.2.2)).Nodup
 old:∀x∈L,x.2.2<c
theorem MOk.nil{α β:Type}:MOk ([]:List (α×β×Nat)) 0:=⟨List.nodup_nil,List.nodup_nil,fun x h=>by cases h⟩
section
variable{α β:Type}[DecidableEq α]
theorem mfind_none{x:α}{L:List (α×β×Nat)}:mfind x L=none↔x∉L.map (·.1):=by
 induction L with
 |nil=>simp[mfind]
 |cons e l ih=>
  simp only[mfind,List.map_cons,List.mem_cons,not_or]
  by_cases he:e.1=x
  · simp[he]
  · rw[if_neg he,ih]
    exact⟨fun h=>⟨fun hx=>he hx.symm,h⟩,fun h=>h.2⟩
theorem mset_keys(x:α)(v:β)(c:Nat):∀(L:List (α×β×Nat)),(mset x v c L).map (·.1)=if x∈L.map (·.1)then L.map (·.1)else L.map (·.1)++[x]
 |[]=>by simp[mset]
 |e::l=>by
  simp only[mset,List.map_cons,List.mem_cons]
  by_cases he:e.1= x
  · simp[he]
  · have hx :¬x=e.1:=fun h=>he h.symm
    rw[if_neg he]
    simp only[List.map_cons,mset_keys x v c l,hx,false_or]
    split<;>rfl
theorem mset_borns(x:α)(v:β)(c:Nat):∀(L:List (α×β×Nat)),(mset x v c L).map (·.2.2)=if x∈L.map (·.1)then L.map (·.2.2)else L.map (·.2.2)++[c]
 |[]=>by simp[mset]
 |e::l=>by
  simp only[mset,List.map_cons,List.mem_cons]
  by_cases he:e.1= x
  · simp[he]
  · have hx :¬x=e.1:=fun h=>he h.symm
    rw[if_neg he]
    simp only[List.map_cons,mset_borns x v c l,hx,false_or]
    split<;>rfl
theorem mclk_eq(x:α)(c:Nat)(L:List (α×β×Nat)):mclk x c L=if x∈L.map (·.1)then c else c+1:=by
 unfold mclk
 cases h:mfind x L with
 |none=>simp[mfind_none.1 h]
 |some v=>
  have:x∈L.map (·.1):=by
   refine Classical.byContradiction fun hn=>?_
   rw[mfind_none.2 hn]at h
   cases h
  simp[this]
theorem MOk.set{L:List (α×β×Nat)}{c:Nat}(h:MOk L c)(x:α)(v:β):MOk (mset x v c L) (mclk x c L):=by
 rw[mclk_eq]
 have ho:∀b∈L.map (·.2.2),b<c:=fun b hb=>by obtain⟨e,he,rfl⟩:=List.mem_map.1 hb;exact h.old e he
 refine⟨?_,?_, fun e he =>?_⟩
 · rw[mset_keys]
   split
   · exact h.keys
   · exact List.nodup_append.2 ⟨h.keys, by simp,fun a ha b hb=>by simp at hb;subst hb;intro e; subst e; contradiction⟩
 · rw[mset_borns]
   split
   · exact h.borns
   · exact List.nodup_append.2 ⟨h.borns,by simp,fun a ha b hb=>by simp at hb;subst hb; have := ho a ha; omega⟩
 · have hb:e.2.2∈(mset x v c L).map (·.2.2):=List.mem_map.2 ⟨e,he,rfl⟩
   rw[mset_borns]at hb
   split at hb<;>rename_i hx
   · rw[if_pos hx]; exact ho _ hb
   · rw[if_neg hx]
     rcases List.mem_append.1 hb with hb | hb
     ·have:=ho _ hb;omega
     ·simp at hb;omega
theorem mdel_sub(x:α):∀(L:List (α×β×Nat)),(mdel x L).Sublist L
 |[]=>.slnil
 |e::l=>by
  simp only[mdel]
  split
  ·exact List.sublist_cons_self _ _
  ·exact(mdel_sub x l).cons_cons _
theorem MOk.del{L:List (α×β×Nat)}{c:Nat}(h:MOk L c)(x:α):MOk (mdel x L) c:=
 ⟨((mdel_sub x L).map _).nodup h.keys,((mdel_sub x L).map _).nodup h.borns,fun e he=>h.old e ((mdel_sub x L).subset he)⟩
theorem mfind_mem{x:α}{v:β}:∀{L:List (α×β×Nat)},mfind x L=some v→∃e∈L,e.1=x∧e.2.1=v
 |e::l,h=> by
  simp only[mfind]at h
  split at h
  · rename_i he
    cases h
    exact⟨e,List.mem_cons_self ..,he,rfl⟩
  · obtain⟨e', h1, h2⟩:=mfind_mem h
    exact⟨e',List.mem_cons_of_mem _ h1,h2⟩
theorem mfind_set(x y:α)(v:β)(c:Nat):∀(L:List (α×β×Nat)),mfind y (mset x v c L)=if x=y then some v else mfind y L
 |[]=>by simp[mset,mfind]
 |e::l=>by
  simp only[mset]
  by_cases he: e.1 = x
  · rw[if_pos he]
    simp only[mfind]
    by_cases hy :x=y
    ·simp[hy]
    · have : ¬ e.1=y:=fun h=>hy (he▸h)
      simp[hy,this]
  · rw[if_neg he]
    simp only[mfind, mfind_set x y v c l]
    by_cases hy : e.1 = y
    · have : ¬x=y:=fun h=>he (hy.trans h.symm)
      simp[hy,this]
    ·simp[hy]
theorem mfind_del(x y:α):∀{L:List (α×β×Nat)},(L.map (·.1)).Nodup→mfind y (mdel x L)=if x=y then none else mfind y L
 |[],_=>by simp[mdel,mfind]
 |e::l,hn=>by
  have hn':e.1∉l.map (·.1)∧(l.map (·.1)).Nodup:=List.nodup_cons.1 hn
  simp only[mdel]
  by_cases he:e.1=x
  · rw[if_pos he]
    by_cases hy : x = y
    · rw[if_pos hy]
      exact mfind_none.2 (hy ▸ he ▸ hn'.1)
    · have : ¬ e.1 =y:=fun h=>hy (he▸ h)
      simp[mfind, hy, this]
  · rw[if_neg he]
    simp only[mfind, mfind_del x y hn'.2]
    by_cases hy : e.1 = y
    · have:¬x=y:=fun h=>he (hy.trans h.symm)
      simp[hy,this]
    ·simp[hy]
end
theorem Hp.viewF{w0 w:World}{S:Nat→Prop}{O:List Nat}{M:Heap}{W:List OwnS}{G:List Fact}(H:Hp w0 S O M W G w){F:Fact}(i:Nat)(h:G[i]?=some F):F.p (fun _=>True) w:=
 F.step (H.fact i h) fun _ _ _=>⟨trivial,rfl⟩
end Go.BX

/-
 THE ENGINE's further steps for maps and pointers: a lookup whose outcome is known; a clone of a map; two pointers held against each other; a slice read as an array.
 No condition.
-/
namespace Go.BX
open Go.RowKit(Below)
section
variable{α β:Type}{P:Program}{n:Nat}{ds:List Deferred}{ops:Array Oper}{K:Env→World→Prop}{l r:List (Nat×Kd)}{σ:Env}{w:World}{κ:Kd}{d:Option Tmp}
variable{w0:World}{S:Nat→Prop}{O:List Nat}{M M':Heap}{W:List OwnS}{G:List Fact}{mk:α→Value}{vk:β→Value}{L:List (α×β×Nat)}{b c:Nat}{T:TypeId}
theorem RW.mapGetF[DecidableEq α]{Kt E:TypeId}{z:β}(x:α)(ok:Bool)(q:Option β){v:Value}(hl:look P n ops l σ=some (κ,semV (Instr.lookup T (.map (some b)) (mk x) ok),d,r))(H:Hp w0 S O M W G w)(i:Nat)(hm:M[i]?=some (b,mapO mk vk L c))
 (hk:KeyOk P Kt mk)(hT:P.underlying T=some (.map Kt E))(hz:∀w,(zeroValue E).run P w=.ok (vk z) w)(hf:mfind x L=q)(hv:(if ok then .tuple #[vk (q.getD z),.bool q.isSome]else vk (q.getD z))=v)
 (h:RW P ops n ds K r (putO d v σ) w):RW P ops n ds K l σ w:=
 RW.mapGet x ok hl H i hm hk hT hz (by rw[hf,hv];exact h)
theorem clone_run{b:Nat}{es:Array MapEntry}{clock:Nat}(t:TypeId)(hb:w.heap[b]?=some (.map es clock)):
 (Extern.MapsClone.clone #[.iface t (.map (some b))]).run P w=.ok (.iface t (.map (some w.heap.size))) (w.alloc (.map es clock)):=by
 have e:Extern.MapsClone.clone #[.iface t (.map (some b))]=(getObj b>>=fun o=>match o with
  |.map entries clock=>(newObj (.map entries clock)>>=fun n=>pure (.iface t (.map (some n))))
  | _ => stuck "maps.clone: a map expected") := rfl
 rw[e]
 simp[getObj_run hb,Result.andThen,go_sem]
theorem RW.cloneM {f : FuncId} {fn : Func} {t : TypeId} (hl : look P n ops l σ = some (κ, callFunc f #[.iface t (.map (some b))], d, r)) (hκ : κ ≠ .qui) (hfn : P.funcs[f]? = some fn) (hname : (fn.name == "runtime.NumGoroutine") = false)
 (hbd:fn.body.isNone=true)(hn:Extern.findNext fn=none)(he:Extern.find fn=some Extern.MapsClone.clone)(H:Hp w0 S O M W G w)(i:Nat)(hm:M[i]?=some (b,mapO mk vk L c))
 (h:∀q w',Hp w0 S O ((q,mapO mk vk L c)::M) W G w'→RW P ops n ds K r (putO d (.iface t (.map (some q))) σ) w'):RW P ops n ds K l σ w:=by
 have hb:=(H.own _ (List.mem_of_getElem? hm)).1
 refine RW.makeS hl hκ (w1:={w with heap:=w.heap.push (mapO mk vk L c)}) ?_ ⟨rfl,rfl,rfl,by simp,fun k hk=>by
  show(w.heap.push _)[k]?=_
  rw[Array.getElem?_push,if_neg (by omega)]⟩ (h _ _ (H.alloc _))
 rw[run_callFunc_extern hfn hname hbd hn he,clone_run t hb]
 rfl
def sizedE(P:Program)(E:TypeId):Bool:=match P.info? E with
 |some i=>!Nat.beq i.size 0
 |none=>false
theorem RW.ptrEq{E:TypeId}{p q:Nat}{cp cq:Array Value}{tp tq:TypeId}(hl:look P n ops l σ=some (κ,semV (binOp .eql T (.pointer (some ⟨q,0,none⟩)) (.pointer (some ⟨p,0,none⟩))),d,r))(hT:P.underlying T=some (.pointer E))(hE:sizedE P E=true)
 (H:Hp w0 S O M W G w)(hp:(p,Obj.cells cp tp (0,0))∈M)(hq:(q,Obj.cells cq tq (0,0))∈M)(h:RW P ops n ds K r (putO d (.bool (decide (q=p))) σ) w):RW P ops n ds K l σ w:=by
 obtain⟨ti,hE,hsz⟩:∃ti,P.info? E=some ti∧ti.size≠0:=by
  unfold sizedE at hE
  split at hE
  · rename_i i hi
    exact⟨i, hi, fun e => by rw[e]at hE;cases hE⟩
  ·cases hE
 have a:=(H.own _ hp).1
 have b:=(H.own _ hq).1
 refine RW.readS hl (fun w' he=>semV_run ?_) h
 by_cases hqp:q = p
 · subst hqp
   rw[run_eql_ptr_same w' _ hT hE]
   simp
 · rw[run_eql_ptr_other w' hT hE hsz (fun e => hqp (by injection e)) (he.block b) (he.block a)]
   simp[hqp]
theorem arrayAt_run{E:TypeId}{N:Nat}{a:Option Addr}{len cap:Nat}(hT:P.underlying T=some (.array N E))(hle:N≤len):(Instr.arrayAt T (.slice a len cap)).run P w=.ok (.pointer a) w:=by
 simp[Instr.arrayAt,run_underlying hT,Nat.not_lt.2 hle]
theorem RW.arrAt{E:TypeId}{N:Nat}{a:Option Addr}{len cap:Nat}(hl:look P n ops l σ=some (κ,semV (Instr.arrayAt T (.slice a len cap)),d,r))(hT:P.underlying T=some (.array N E))(hle:N≤len)
 (h:RW P ops n ds K r (putO d (.pointer a) σ) w):RW P ops n ds K l σ w:=
 RW.readS hl (fun _ _=>semV_run (arrayAt_run hT hle)) h
end
theorem bytes_cells{S:Nat→Prop}{w:World}{a:Option Addr}{c N:Nat}{xs:List (BitVec 8)}(h:(Shape.slice (Shape.bv .u8 8)).rep S w [.slice a xs.length c] xs)(hN:N≤xs.length)(hN0:0<N):
 ∃b o,a=some ⟨b,o,none⟩∧Cells w b o ((List.range N).map fun i=>.int .u8 (((xs.getD i 0#8).toNat:Nat):Int)):=by
 obtain⟨-,-,-,hE⟩:=Shape.elems_of h
 obtain⟨b,o,es,ha,-,-,-⟩:=hE 0 xs[0] (List.getElem?_eq_getElem (by omega))
 refine⟨b,o,ha,fun j v hj=>?_⟩
 have hjN:j<N:=by
  have:=(List.getElem?_eq_some_iff.1 hj).1
  simpa using this
 obtain⟨b',o',es',ha',-,hc,hr⟩:=hE j xs[j] (List.getElem?_eq_getElem (by omega))
 rw[ha]at ha'
 injection ha' with ha'
 injection ha' with h1 h2
 subst h1
 subst h2
 obtain rfl:=hr
 have:=hc 0 _ rfl
 rw[List.getElem?_map,List.getElem?_range hjN]at hj
 simp only[Option.map_some,Option.some.injEq]at hj
 rw[←hj]
 simpa[Shape.bv,List.getD_eq_getElem?_getD,List.getElem?_eq_getElem (show j<xs.length by omega)]using this
end Go.BX

/-
 THE ENGINE: shifts by an amount that is known at run time only.
 No condition.
-/
namespace Go.BX
theorem shift_run{P:Program}{w:World}{k yk:IntKind}{a y:Int}{j:Nat}(hy:y=(j:Int))(hj:j≤k.bits):(Op.shift .shl k a yk y).run P w=.ok (.int k (k.wrap (a*2^j))) w∧(Op.shift .shr k a yk y).run P w=.ok (.int k (a.fdiv (2^j))) w:=by
 subst hy
 have e:min (Int.toNat (j:Int)) k.bits=j:=by
  rw[Int.toNat_natCast]; exact Nat.min_eq_left hj
 constructor
 · unfold Op.shift
   rw[if_neg (by omega)]
   simp only[e]
   rfl
 · unfold Op.shift
   rw[if_neg (by omega)]
   simp only[e]
   rfl
theorem shr_run8{P:Program}{w:World}{yk:IntKind}(x:BitVec 8){y:Int}{j:Nat}(hy:y=(j:Int))(hj:j≤8):(Op.shift .shr .u8 ((x.toNat:Nat):Int) yk y).run P w=.ok (.int .u8 (((x>>>j).toNat:Nat):Int)) w:=by
 rw[(shift_run (k:=.u8) hy (show j≤IntKind.bits .u8 from hj)).2,bv_shr8 x j]
end Go.BX

/-
 THE ENGINE: slices.Clip, and append to a clipped row: always a new one.
 No condition.
-/
namespace Go.BX
open Go.RowKit(Below)
section
variable{P:Program}{n:Nat}{ds:List Deferred}{ops:Array Oper}{K:Env→World→Prop}{l r:List (Nat×Kd)}{σ:Env}{w w1:World}{κ:Kd}{d:Option Tmp}
variable{w0:World}{S:Nat→Prop}{O:List Nat}{M:Heap}{W:List OwnS}{G:List Fact}
theorem clip_run{T e:TypeId}{m:Nat}(hT:sliceE P T=some (e,m)){a:Option Addr}{len cap:Nat}{k1 k2:IntKind}{t1 t2:Int}(h1:t1=(len:Int))(h2:t2=(len:Int))(hlc:len≤cap):
 (Instr.sliceAt T (.slice a len cap) none (some (.int k1 t1)) (some (.int k2 t2))).run P w=.ok (.slice a len len) w:=by
 subst h1 h2
 obtain⟨hu,i,hti,hm⟩:=sliceE_spec hT
 have b:∀(k:IntKind)(code:BoundsCode),(Instr.sliceBound (.int k (len:Int)) cap code).run P w=.ok len w:=fun k code=>sliceBound_run hlc
 have c:∀(k:IntKind)(code:BoundsCode),(Instr.sliceBound (.int k (len:Int)) len code).run P w=.ok len w:=fun k code=>sliceBound_run (Nat.le_refl _)
 cases a<;>simp[Instr.sliceAt,Instr.slice,Instr.sliceBounds,run_underlying hu,sizeOf,typeInfo,hti,b,c,Addr.add]
theorem RW.clip{T e:TypeId}{α:Type}{sh:Shape α}{a:Option Addr}{len cap:Nat}{xs:List α}{k1 k2:IntKind}{t1 t2:Int}(hl:look P n ops l σ=some (κ,semV (Instr.sliceAt T (.slice a len cap) none (some (.int k1 t1)) (some (.int k2 t2))),d,r))
 (hT:sliceE P T=some (e,sh.size))(H:Hp w0 S O M W G w)(g:Nat)(hg:G[g]?=some (Rp sh.slice [.slice a len cap] xs))(h1:t1=(len:Int))(h2:t2=(len:Int))
 (h:Hp w0 S O M W (Rp sh.slice [.slice a len len] xs::G) w→RW P ops n ds K r (putO d (.slice a len len) σ) w):RW P ops n ds K l σ w:=by
 obtain⟨rfl,hyc,hycm,hE⟩:=Shape.elems_of (H.rp g hg)
 exact RW.readS hl (fun w' _=>semV_run (clip_run (w:=w') hT h1 h2 hyc)) (h (H.add ⟨a,xs.length,rfl,Nat.le_refl _,by omega,hE⟩))
theorem clipAt_run{T e:TypeId}{m:Nat}(hT:sliceE P T=some (e,m)){a:Option Addr}{len cap k:Nat}{k1 k2:IntKind}{t1 t2:Int}(h1:t1=(k:Int))(h2:t2=(k:Int))(hlc:k≤cap):
 (Instr.sliceAt T (.slice a len cap) none (some (.int k1 t1)) (some (.int k2 t2))).run P w=.ok (.slice a k k) w:=by
 subst h1 h2
 obtain⟨hu,i,hti,hm⟩:=sliceE_spec hT
 have b:∀(q:IntKind)(code:BoundsCode),(Instr.sliceBound (.int q (k:Int)) cap code).run P w=.ok k w:=fun q code=>sliceBound_run hlc
 have c:∀(q:IntKind)(code:BoundsCode),(Instr.sliceBound (.int q (k:Int)) k code).run P w=.ok k w:=fun q code=>sliceBound_run (Nat.le_refl _)
 cases a<;>simp[Instr.sliceAt,Instr.slice,Instr.sliceBounds,run_underlying hu,sizeOf,typeInfo,hti,b,c,Addr.add]
theorem RW.clipAt{T e:TypeId}{α:Type}{sh:Shape α}{a:Option Addr}{len cap k:Nat}{xs:List α}{k1 k2:IntKind}{t1 t2:Int}(hl:look P n ops l σ=some (κ,semV (Instr.sliceAt T (.slice a len cap) none (some (.int k1 t1)) (some (.int k2 t2))),d,r))
 (hT:sliceE P T=some (e,sh.size))(H:Hp w0 S O M W G w)(g:Nat)(hg:G[g]?=some (Rp sh.slice [.slice a len cap] xs))(h1:t1=(k:Int))(h2:t2=(k:Int))(hk:k≤len)
 (h:Hp w0 S O M W (Rp sh.slice [.slice a k k] (xs.take k)::G) w→RW P ops n ds K r (putO d (.slice a k k) σ) w):RW P ops n ds K l σ w:=by
 obtain⟨rfl,hyc,hycm,hE⟩:=Shape.elems_of (H.rp g hg)
 refine RW.readS hl (fun w' _=>semV_run (clipAt_run (w:=w') hT h1 h2 (Nat.le_trans hk hyc))) (h (H.add ⟨a,k,by rw[List.length_take,Nat.min_eq_left hk],by rw[List.length_take,Nat.min_eq_left hk];exact Nat.le_refl _,by omega,fun i x hi=>hE i x ?_⟩))
 rw[List.getElem?_take]at hi
 split at hi
 ·exact hi
 ·cases hi
theorem RW.appendC{T ty e:TypeId}{m by_:Nat}{α:Type}{sh:Shape α}{a1 a2:Option Addr}{l1 l2 c2:Nat}{xs ys zs:List α}(hl:look P n ops l σ=some (κ,semV (Builtin.append_ #[T,T] ty #[.slice a1 l1 l1,.slice a2 l2 c2]),d,r))(hκ:κ≠.qui)
 (hT:elemE P T=some (e,m,by_,true))(hm:m=sh.size)(H:Hp w0 S O M W G w)(g1:Nat)(hg1:G[g1]?=some (Rp sh.slice [.slice a1 l1 l1] xs))(g:Nat)(hg:G[g]?=some (Rp sh.slice [.slice a2 l2 c2] ys))(hy:0<ys.length)
 (hz:xs++ys=zs)(hby:zs.length*by_≤140737488355328∧zs.length≤9223372036854775807)
 (h:∀a c w',Hp w0 S O M W (Rp sh.slice [.slice a zs.length c] zs::G) w'→RW P ops n ds K r (putO d (.slice a zs.length c) σ) w'):RW P ops n ds K l σ w:=by
 subst hm
 obtain⟨rfl,_,_,p⟩:=Shape.elems_of (H.rp g1 hg1)
 obtain⟨rfl,hyc,hycm,hE⟩:=Shape.elems_of (H.rp g hg)
 obtain⟨hu,ti,z,hti,f,hts,hb,hzs⟩:=elemE_spec hT
 have hne:ys≠[]:=List.length_pos_iff.1 hy
 obtain⟨b,o,news,rfl,hS,hnl,hnc,_,hnr⟩:=elems_flat hE hne
 have hn:∀q u,news[q]?=some u→w.cell? ((⟨b,o,none⟩:Addr).add q)=some u:=fun q u hq=>by rw[addr_lit];exact hnc q u hq
 have hlen:zs.length=xs.length+ys.length:=by rw[←hz,List.length_append]
 -- what is old
 obtain⟨olds,hol,hold,hor,hrun⟩:∃olds:List Value,olds.length=xs.length*sh.size∧(∀v∈olds,v.oneCell'=true)∧(∀i x,xs[i]?=some x→sh.rep (Av S w0 O (idsOf M W)) w ((olds.drop (i*sh.size)).take sh.size) x)∧
  ∃q cc,(Builtin.append_ #[T,T] ty #[.slice a1 xs.length xs.length,.slice (some ⟨b,o,none⟩) ys.length c2]).run P w=.ok (.slice (some ⟨w.heap.size,0,none⟩) (xs.length+ys.length) cc) (w.drew.alloc (.cells (olds.toArray++news.toArray++q) e))∧xs.length + ys.length ≤ cc ∧ cc ≤ maxLen := by
  by_cases hx : xs = []
  · subst hx
    refine⟨[], by simp, (fun v hv => by cases hv), (fun i x hi => by simp at hi), ?_⟩
    cases a1 with
    |none=>
     obtain⟨q,cc,hr,B,C⟩:=append_new_run (ty:=ty) (w:=w) (c:=c2) hT (.inl rfl) hy hnl hnc (by unfold maxLen at hycm;omega) (by rw[hlen]at hby;simp only[List.length_nil,Nat.zero_add]at hby;exact hby.1)
     exact⟨q,cc,by simpa using hr,by simpa using B,C⟩
    |some A=>
     have hg := run_append_grow (P := P) w T ty e ti z hu hti f A 0 0 [] (by simp) (fun j v hj => by simp at hj) ⟨b, o, none⟩ ys.length c2 news (by rw[hts]; exact hnl) hn (by omega) (by omega)
      (by rw[hb]; exact growslice_fits (by omega) (by rw[hlen]at hby; simpa using hby.1))
     exact⟨_, _, by simpa using hg, by simpa using grownCap_ge w (0 + ys.length) 0 e, grownCap_le_maxLen _ _ _ _ (by unfold maxLen; omega)⟩
  · obtain⟨s, t, olds, rfl, _,hol,hoc,y,hor⟩:=elems_flat p hx
    have ho:∀q u,olds[q]?=some u→w.cell? ((⟨s,t,none⟩:Addr).add q)=some u:=fun q u hq=>by rw[addr_lit];exact hoc q u hq
    have hg:=run_append_grow (P:=P) w T ty e ti z hu hti f ⟨s,t,none⟩ xs.length xs.length olds (by rw[hts];exact hol) ho ⟨b,o,none⟩ ys.length c2 news (by rw[hts];exact hnl) hn (by omega) (by omega)
     (by rw[hb];exact growslice_fits (by omega) (by rw[←hlen];exact hby.1))
    exact⟨olds,hol,y,hor,_,_,hg,grownCap_ge _ _ _ _,grownCap_le_maxLen _ _ _ _ (by unfold maxLen;omega)⟩
 obtain⟨q,cc,hr,hcc,hccm⟩:=hrun
 have he:Ext w (w.drew.alloc (.cells (olds.toArray++news.toArray++q) e)):=⟨rfl,rfl,rfl,by simp,fun k hk=>by
  show(w.drew.heap.push _)[k]?=_
  rw[Array.getElem?_push,if_neg (by show¬k=w.heap.size;omega)];rfl⟩
 have hall:=rep_append (cs:=olds) (news:=news) hol hnl hor hnr
 rw[hz]at hall
 rw[←hlen]at hr hcc
 refine RW.makeS hl hκ (semV_run hr) he (h _ cc _ ((H.ext he).add ⟨_,cc,rfl,hcc,hccm,elems_of_flat (news:=olds++news) ⟨.inr (.inl H.below.size),fun hid=>by have:=(H.ids_lt _ hid).1;omega⟩ (by rw[List.length_append,hol,hnl,hlen,Nat.add_mul];exact Nat.le_refl _) ?_ fun i x hx=>sh.step (hall i x hx) fun k hk hlt=>⟨hk,Below.block he k hlt⟩⟩))
 have hblk:(w.drew.alloc (.cells (olds.toArray++news.toArray++q) e)).heap[w.heap.size]?=some (.cells (olds.toArray++news.toArray++q) e):=heap_alloc_new w.drew _
 intro j v hj
 refine(Cells.of_block hblk) j v ?_
 simp only[Array.toList_append]
 rw[List.getElem?_append_left (by have:=(List.getElem?_eq_some_iff.1 hj).1;simpa using this)];exact hj
end
end Go.BX

/-
 THE ENGINE: two facts of what a callee leaves.
 No condition.
-/
namespace Go.BX
theorem Hp.addN2{w0 w w':World}{S:Nat→Prop}{O:List Nat}{M:Heap}{W:List OwnS}{G:List Fact}(H:Hp w0 S O M W G w)(he:Ext w w'){F F2:Fact}(h:F.p (Nw (Av S w0 O (idsOf M W)) w) w')(h2:F2.p (Nw (Av S w0 O (idsOf M W)) w) w'):Hp w0 S O M W (F::F2::G) w':=
 (H.addN he h2).add ((H.addN he h).fact 0 rfl)
end Go.BX

/-
 THE ENGINE's FACTS of any make: what holds of the world by blocks that nobody writes.
 No condition.
-/
namespace Go.BX
def Fz(Q:World→Prop):Fact where
 p:=fun S w=>∃B:Nat→Prop,Q w∧(∀b,B b→S b∧b<w.heap.size)∧∀w':World,(∀b,B b→w'.heap[b]?=w.heap[b]?)→Q w'
 step:=fun{S S' w w'}h hs=>by
  obtain⟨B,h1,h2,h3⟩:=h
  have e:∀b,B b→w'.heap[b]?=w.heap[b]?:=fun b hb=>(hs b (h2 b hb).1 (h2 b hb).2).2
  refine⟨B,h3 w' e,fun b hb=>⟨(hs b (h2 b hb).1 (h2 b hb).2).1,?_⟩,fun w'' h=>h3 w'' fun b hb=>(h b hb).trans (e b hb)⟩
  have h4:=e b hb
  rw[Array.getElem?_eq_getElem (h2 b hb).2]at h4
  exact(Array.getElem?_eq_some_iff.1 h4).1
theorem Fz.of{Q:World→Prop}{S:Nat→Prop}{w:World}(h:(Fz Q).p S w):Q w:=by
 obtain⟨B,a,-,-⟩:=h
 exact a
section
variable{P:Program}{n:Nat}{ds:List Deferred}{ops:Array Oper}{K:Env→World→Prop}{l r:List (Nat×Kd)}{σ:Env}{w:World}{κ:Kd}{d:Option Tmp}{α β:Type}{mk:α→Value}{vk:β→Value}{b:Nat}{L:List (α×β×Nat)}{c:Nat}{T:TypeId}
end
end Go.BX

/-
 THE ENGINE's BRIDGE: what a laws arguments read as, in the engine's shapes; what a law leaves.
 No condition.
-/
namespace Go.BX
open Go.RowKit
open Go.ChangeShapes Go.WideShapes Go.ChangeAt
def Reads{α:Type}(P:Program)(t:TypeId)(sh:Shape α):Prop:=
 ∀(H:Type)(enc:TypeId×Value→H)(w:World)(spare:Nat→Bool)(held:Bool)(fuel:Nat)(cs:List Value)(x:DataW H×List MemPlace),
  DataW.trod enc P w 0 spare held fuel t cs=some x→∃y,sh.rep (fun b=>b<w.heap.size) w cs y
theorem Reads.int{P:Program}{t:TypeId}{k:IntKind}(ht:P.underlying t=some (.int k)):Reads P t (Shape.int k):=by
 intro H enc w spare held fuel cs x h
 obtain⟨n,rfl,_,hw⟩:=DataW.trod_int ht h
 simp only[Lit.wf,Bool.and_eq_true,decide_eq_true_eq]at hw
 exact⟨n,rfl,hw⟩
theorem Reads.bool{P:Program}{t:TypeId}(ht:P.underlying t=some .bool):Reads P t Shape.bool:=by
 intro H enc w spare held fuel cs x h
 cases fuel with
 |zero=>simp[DataW.trod]at h
 |succ n=>
  have hc:∃b,cs=[.bool b]:=by
   unfold DataW.trod at h
   rw[ht]at h
   split at h<;>simp_all
  obtain⟨b,rfl⟩:=hc
  exact⟨b,rfl⟩
theorem Reads.str{P:Program}{t:TypeId}(ht:P.underlying t=some .string):Reads P t Shape.str:=by
 intro H enc w spare held fuel cs x h
 cases fuel with
 |zero=>simp[DataW.trod]at h
 |succ n=>
  unfold DataW.trod at h
  rw[ht]at h
  split at h<;>simp_all
  exact⟨_,rfl,h.1⟩
theorem exists_list{α:Type}{R:Nat→α→Prop}:∀(n:Nat),(∀i,i<n→∃x,R i x)→∃xs:List α,xs.length=n∧∀i x,xs[i]?=some x→R i x
 |0,_=>⟨[],rfl,fun i x h=>by simp at h⟩
 |n+1,h=>by
  obtain⟨xs,hl,hr⟩:=exists_list n fun i hi=>h i (by omega)
  obtain⟨y,hy⟩:=h n (by omega)
  refine⟨xs++[y],by simp[hl],fun i x hx=>?_⟩
  rcases Nat.lt_or_ge i xs.length with hlt | hge
  · rw[List.getElem?_append_left hlt]at hx; exact hr i x hx
  · rw[List.getElem?_append_right hge]at hx
    have h0:i-xs.length=0:=by
     have:=(List.getElem?_eq_some_iff.1 hx).1
     simpa using this
    rw[h0]at hx
    cases hx
    obtain rfl:i=n:=by omega
    exact hy
theorem Reads.slice{α:Type}{sh:Shape α}{P:Program}{t e:TypeId}(ht:P.underlying t=some (.slice e))(hc:P.cellsOf e=sh.size)(hr:Reads P e sh):Reads P t sh.slice:=by
 intro H enc w spare held fuel cs x h
 rcases DataW.trod_slice ht h with⟨rfl,_⟩|⟨a,len,cap,elems,rest,n,_,rfl,_,_, hl, hm, hlen, hel, _, _⟩
 · exact⟨[], Shape.slice_nil⟩
 · have hsp : 0<len→a.spot=none:=fun k=>by
    have d:=hel 0 k
    rw[List.getElem?_eq_getElem (by omega)]at d
    obtain⟨cs',f,_⟩:=Option.bind_eq_some_iff.1 d
    obtain⟨_,g,hcell⟩:=World.cells?_some f
    have hpos:0<P.cellsOf e:=by rw[hc];exact sh.pos
    have c:=hcell 0 hpos
    rw[List.getElem?_eq_getElem (by omega),Nat.zero_mul]at c
    have l:(a.add 0).add 0=a := by simp[Addr.add]
    rw[l]at c
    unfold World.cell? at c
    split at c
    · split at c
      · cases c
      · rename_i hs
        simpa using hs
    · cases c
   have hi : ∀ i, i <len→∃y,∃es,Cells w a.block (a.off+i*sh.size) es∧sh.rep (fun b=>b<w.heap.size) w es y∧a.spot=none:=fun i hi=>by
    have d:=hel i hi
    rw[List.getElem?_eq_getElem (by omega)]at d
    obtain⟨cs',f,c⟩:=Option.bind_eq_some_iff.1 d
    obtain⟨y,hy⟩:=hr H enc w spare held n cs' _ c
    obtain⟨_,g,hcell⟩:=World.cells?_some f
    have hpos:0<P.cellsOf e:=by rw[hc];exact sh.pos
    refine⟨y,cs',fun j v hj=>?_,hy,hsp (by omega)⟩
    have hjl:=(List.getElem?_eq_some_iff.1 hj).1
    have:=hcell j (by omega)
    rw[hj,hc]at this
    have hsp:=hsp (by omega)
    cases a with
    |mk ab ao az=>
     simp only at hsp
     subst hsp
     simpa[addr_lit,Nat.add_assoc]using this
   obtain⟨xs,hxl,hxr⟩:=exists_list len hi
   subst hxl
   refine⟨xs,some a,cap,rfl,hl,hm,fun i x hx=>?_⟩
   obtain⟨es,d,f,c⟩:=hxr i x hx
   have hb:a.block<w.heap.size:=d.lt (by rw[sh.len f];exact sh.pos)
   cases a with
   |mk ab ao az=>
    simp only at c
    subst c
    exact⟨ab,ao,es,rfl,hb,d,f⟩
def ReadsAt{α:Type}(P:Program)(fs:List Field)(o:Nat)(sh:Shape α):Prop:=
 ∀(H:Type)(enc:TypeId×Value→H)(w:World)(spare:Nat→Bool)(held:Bool)(fuel:Nat)(cs:List Value),cs.length=o+sh.size→
  (∀f∈fs,∃y,DataW.trod enc P w 0 spare held fuel f.type ((cs.drop f.offset).take (P.cellsOf f.type))=some y)→∃y,sh.rep (fun b=>b<w.heap.size) w (cs.drop o) y
theorem ReadsAt.one{α:Type}{P:Program}{f:Field}{o:Nat}{sh:Shape α}(ho:f.offset=o)(hc:P.cellsOf f.type=sh.size)(hr:Reads P f.type sh):ReadsAt P [f] o sh:=by
 intro H enc w spare held fuel cs hl h
 obtain⟨y,hy⟩:=h f (List.mem_cons_self ..)
 obtain⟨z,hz⟩:=hr H enc w spare held fuel _ _ hy
 refine⟨z,?_⟩
 rw[ho,hc,List.take_of_length_le (by rw[List.length_drop];omega)]at hz
 exact hz
theorem ReadsAt.cons{α β:Type}{P:Program}{f:Field}{fs:List Field}{o:Nat}{s:Shape α}{t:Shape β}(ho:f.offset=o)(hc:P.cellsOf f.type=s.size)(hr:Reads P f.type s)(hk:ReadsAt P fs (o+s.size) t):
 ReadsAt P (f::fs) o (Shape.pair s t):=by
 intro H enc w spare held fuel cs hl h
 obtain⟨y,hy⟩:=h f (List.mem_cons_self ..)
 obtain⟨z,hz⟩:=hr H enc w spare held fuel _ _ hy
 have hl':cs.length=o+(s.size+t.size):=hl
 obtain⟨u,hu⟩:=hk H enc w spare held fuel cs (by omega) fun f' hf'=>h f' (List.mem_cons_of_mem _ hf')
 rw[ho,hc]at hz
 refine⟨(z,u),(cs.drop o).take s.size,cs.drop (o+s.size),?_,hz,hu⟩
 rw[←List.drop_drop,List.take_append_drop]
theorem Reads.struct{α:Type}{P:Program}{t:TypeId}{fs:Array Field}{sh:Shape α}(ht:P.underlying t=some (.struct fs))(hc:P.cellsOf t=sh.size)(hr:ReadsAt P fs.toList 0 sh):Reads P t sh:=by
 intro H enc w spare held fuel cs x h
 obtain⟨xs,n,_,rfl,hl,hlen,hf⟩:=DataW.trod_struct ht h
 obtain⟨y,hy⟩:=hr H enc w spare held n cs (by omega) fun f hfm=>by
  obtain⟨i,hi,he⟩:=List.mem_iff_getElem.1 hfm
  have:=hf i f (by rw[←he];simp at hi⊢)
  rw[this]
  have hix:i<xs.length:=by simp at hi;omega
  exact⟨xs[i],by simp[hix]⟩
 exact⟨y,by simpa using hy⟩
theorem Reads.map{α β:Type}{P:Program}{t:TypeId}{s:Shape α}{f:β→α}(h:Reads P t s)(hf:∀a,∃b,f b=a):Reads P t (s.map f):=by
 intro H enc w spare held fuel cs x hx
 obtain⟨y,hy⟩:=h H enc w spare held fuel cs x hx
 obtain⟨z,rfl⟩:=hf y
 exact⟨z,hy⟩
section
variable{H:Type}{enc:TypeId×Value→H}{P:Program}{W W':World}
theorem Reads.trod{α:Type}{sh:Shape α}{t:TypeId}{sp:Nat→Bool}{hd:Bool}{v:Value}{d:DataW H}{p:List MemPlace}(hr:Reads P t sh)(h:DataW.Trod enc P W 0 sp hd t v d p):∃y,sh.rep (fun b=>b<W.heap.size) W v.cells.toList y:=by
 obtain⟨n,hn⟩:=h
 exact hr H enc W sp hd n _ _ hn
theorem Reads.sliceArg{α:Type}{sh:Shape α}{t e:TypeId}{r:Reach}{base:Nat}{sp:Nat→Bool}{hd:Bool}{v:Value}{d:DataW H}{p:List MemPlace}(hr:Reads P t sh.slice)(ht:P.underlying t=some (.slice e))(hval:Value.okWide P W r base t v)(h:DataW.Trod enc P W 0 sp hd t v d p):
 ∃(a:Option Addr)(xs:List α)(c:Nat),v=.slice a xs.length c∧sh.slice.rep (fun b=>b<W.heap.size) W [.slice a xs.length c] xs:=by
 obtain⟨a,len,cap,rfl⟩:=okWide_slice ht hval
 obtain⟨xs,hx⟩:=hr.trod h
 obtain⟨a',c',he⟩:=Shape.slice_form hx
 simp only[Value.slice.injEq]at he
 obtain⟨rfl,rfl,rfl⟩:=he
 exact⟨a,xs,cap,rfl,hx⟩
theorem trodAll_stays(hl:laidOutB P=true)(hb:Below W.heap.size W W'){sp:Nat→Bool}:∀{ts:List TypeId}{vs:List Value}{ds:List (DataW H)}{p:List MemPlace},(∀t∈ts,P.readableRec t=true∧t<P.types.size)→(∀x∈p,x.block<W.heap.size)→(∀x∈p,sp x.block=true)→
 DataW.TrodAll enc P W 0 (fun _=>true) true ts vs ds p→DataW.TrodAll enc P W' 0 sp true ts vs ds p
 |[],[],[],_,_,_,_,h=>h
 |[],[],_::_,_,_,_,_,h=>h.elim
 |[],_::_,_,_,_,_,_,h=>h.elim
 |_::_,[],_,_,_,_,_,h=>h.elim
 |_::_,_::_,[],_,_,_,_,h=>h.elim
 |t::ts,v::vs,d::ds,_,ht,hlt,hs,h=>by
  obtain⟨p,q,h1,h2,rfl⟩:=h
  exact⟨p,q,WideElems.Trod_stays hl (ht t (List.mem_cons_self ..)).1 (ht t (List.mem_cons_self ..)).2 h1 (fun x hx=>hb.same (hlt x (List.mem_append_left _ hx))) (fun x hx=>hs x (List.mem_append_left _ hx)),
   trodAll_stays hl hb (fun t ht'=>ht t (List.mem_cons_of_mem _ ht')) (fun x hx=>hlt x (List.mem_append_right _ hx)) (fun x hx=>hs x (List.mem_append_right _ hx)) h2,rfl⟩
theorem params_ok{ts:List TypeId}(h:(ts.all fun t=>P.readableRec t&&Nat.blt t P.types.size)=true):∀t∈ts,P.readableRec t=true∧t<P.types.size:=fun t ht=>by
 have h1:=List.all_eq_true.1 h t ht
 simp only[Bool.and_eq_true,Nat.blt,Nat.ble_eq]at h1
 exact⟨h1.1,h1.2⟩
theorem post_true{f:Func}{s:ChangeSpec}{fresh handsOn again:Bool}{args:Array Value}{ds gs:List (DataW H)}{before:List MemPlace}{tb:TypeId}(hl:laidOutB P=true)
 (hps:∀t∈f.params.toList,P.readableRec t=true∧t<P.types.size)(hv:s.vars=[])(hW:DataW.Whole enc P f.params.toList s.vars false W args.toList ds gs before)(hb:Ext W W')
 (hfn:s.fn H (ds++gs)={results:=[.lit (.bool true)],args:=ds})(hrt:f.resultTypes=#[tb])(htb:P.underlying tb=some .bool):s.post enc P f false fresh handsOn again W args (.bool true) W':=by
 have hW':=hW
 obtain⟨p,q,hA,hV,rfl,hfz,hnd⟩:=hW
 rw[hv]at hV
 obtain⟨rfl,rfl⟩:=trodVars_none hV
 have hlt:∀x∈p,x.block<W.heap.size:=fun x hx=>hW'.lt x (List.mem_append_left _ hx)
 have hres:∀(b:Nat)(sp:Nat→Bool)(hd:Bool),DataW.TrodAll enc P W' b sp hd f.resultTypes.toList ((Value.bool true).resultList f.resultTypes.size) (s.fn H (ds++[])).results []:=fun b sp hd=>by
  rw[hfn,hrt]
  exact⟨[],[],shut_bool htb true,rfl,rfl⟩
 have hargs:∀sp:Nat→Bool,(∀x∈p,sp x.block=true)→DataW.TrodAll enc P W' 0 sp true f.params.toList args.toList (s.fn H (ds++[])).args p:=fun sp hs=>by
  rw[hfn]
  exact trodAll_stays hl hb hps hlt hs hA
 have hvars:∀sp:Nat→Bool,DataW.TrodVars enc P W' sp s.vars (s.fn H (ds++[])).vars []:=fun sp=>by
  rw[hv,hfn]
  rfl
 rw[List.append_nil]at hW' hfz hnd
 refine⟨ds,[],p,[],p,[],hW',hres _ _ _,hargs _ (fun x hx=>by simpa using hlt x hx),hvars _,World.keptBut_mono (fun x hx=>⟨hx,.inr (.inl hx)⟩) (hb.frame _),fun _=>?_⟩
 refine⟨ok_one hrt rfl (okWide_bool_mk htb true),_,_,([]++p)++[],⟨[]++ p, [], trodAll_append (hargs _ (fun _ _ => rfl)) (hres _ _ _), hvars _, rfl, ?_, ?_⟩, ?_⟩
 · intro b off hp
   have hp : MemPlace.cell b off ∈ p := by simpa using hp
   have hblk := hlt _ hp
   rw[hb.frozen (p :=⟨b, off, none⟩) hblk]
   exact hfz b off hp
 · intro h
   cases h
 · intro x hx _
   simpa using hx
end
end Go.BX

/-
 THE ENGINE's BRIDGE: numbers of 8 and 32 bits.
 No condition.
-/
namespace Go.BX
theorem Reads.bv8{P:Program}{t:TypeId}(ht:P.underlying t=some (.int .u8)):Reads P t (Shape.bv .u8 8):=by
 intro H enc w spare held fuel cs x h
 obtain⟨n,rfl,a,b⟩:=Reads.int ht H enc w spare held fuel cs x h
 have h0':0≤n:=a
 have h1':n≤255:=b
 refine⟨BitVec.ofInt 8 n,?_⟩
 show[Value.int .u8 n]=[.int .u8 _]
 rw[BitVec.toNat_ofInt,Int.toNat_of_nonneg (Int.emod_nonneg _ (by decide))]
 congr 2
 simp only[Nat.reducePow]
 omega
end Go.BX

