import Derived.WalkKit
import Derived.KernelRfl
import Derived.StillTail
import Derived.Laws.CopyOwn
import Derived.OrdersHeld
import Derived.Lib.Overlaps
import Derived.Laws.Externs
import Derived.Laws.MakeOwn
import Derived.Laws.BytesString
import Derived.Laws.IdiomStrings
import Derived.Laws.Concat
import Derived.Laws.StructEq
import Derived.Defers
import Derived.Recover
/-
  THE ENGINE: a judgement on a frame whose slots are known by a list, over any program; laws for each operation.
  No condition.
-/
/-
 THE ENGINE's CORE: a judgement 'WK' on a frame whose slots are known by a short list (an 'Env'), over any program; pure operations are run by the kernel.
 No condition.
-/
namespace Go.BX
abbrev Env:=List (Nat×Value)
def find:Env→Nat→Option Value
 |[],_=>none
 |(k,v)::r,t=>cond (Nat.beq k t) (some v) (find r t)
theorem find_cons(k:Nat)(v:Value)(r:Env)(t:Nat):find ((k,v)::r) t=if k=t then some v else find r t:=by
 simp only[find]
 by_cases h:k=t
 ·subst h;simp
 · have :Nat.beq k t=false:=by
    cases hb:Nat.beq k t with
    |false=>rfl
    |true=>exact absurd (Nat.eq_of_beq_eq_true hb) h
   simp[this,h]
structure Fits(n:Nat)(σ:Env)(ds:List Deferred)(a:Act):Prop where
 size:a.tmps.size=n
 defers:a.defers=ds
 vals:∀t v,find σ t=some v→a.tmps[t]?=some v
theorem Fits.put{n:Nat}{σ:Env}{ds:List Deferred}{a:Act}(h:Fits n σ ds a){d:Nat}(hd:d<n)(v:Value):Fits n ((d,v)::σ) ds (a.put (some d) v):=by
 refine⟨by simp[Act.put,h.size],by simp[Act.put,h.defers],fun t u hu=>?_⟩
 rw[find_cons]at hu
 by_cases hdt:d= t
 · subst hdt
   simp only[if_true, Option.some.injEq]at hu
   subst hu
   have:d<a.tmps.size:=by rw[h.size]; exact hd
   simp[Act.put, this]
 · rw[if_neg hdt]at hu
   simp only[Act.put]
   rw[Array.getElem?_setIfInBounds_ne hdt]
   exact h.vals t u hu
theorem Fits.sub{n:Nat}{σ σ':Env}{ds:List Deferred}{a:Act}(h:Fits n σ ds a)(hs:∀t v,find σ' t=some v→find σ t=some v):Fits n σ' ds a:=
 ⟨h.size,h.defers,fun t v hv=>h.vals t v (hs t v hv)⟩
def pick:List Nat→Env→Env
 |[],_=>[]
 |t::r,σ=>match find σ t with
  |some v=>(t,v)::pick r σ
  |none=>pick r σ
theorem pick_find(σ:Env):∀(live:List Nat)(t:Nat)(v:Value),find (pick live σ) t=some v→find σ t=some v
 |[],t,v,h=>by simp[pick,find]at h
 |k::r,t,v,h=>by
  simp only[pick]at h
  cases hk:find σ k with
  |none=>rw[hk]at h;exact pick_find σ r t v h
  |some u=>
   rw[hk]at h
   simp only[find_cons]at h
   by_cases hkt:k=t
   ·subst hkt;simp only[if_true]at h;rw[hk,h]
   ·rw[if_neg hkt]at h;exact pick_find σ r t v h
def ev(σ:Env):Operand→Option Value
 |.tmp t=>find σ t
 |.const v=>some v
 |.global g=>some (.pointer (some ⟨g,0,none⟩))
 |.func f=>some (.func (.func f) #[] #[])
def rho(σ:Env)(x:Operand):Value:=(ev σ x).getD undef
theorem eval_rho{n:Nat}{σ:Env}{ds:List Deferred}{a:Act}(h:Fits n σ ds a){x:Operand}{v:Value}(hx:ev σ x=some v):a.eval x=v:=by
 cases x with
 |tmp t=>
  have:=h.vals t v hx
  simp[Act.eval,this]
 |const u=>simpa[ev,Act.eval]using hx
 |global g=>simpa[ev,Act.eval]using hx
 |func f=>simpa[ev,Act.eval]using hx
def known(σ:Env)(o:Oper):Bool:=
 (o.op.operands.toList.all fun x=>(ev σ x).isSome)&&(match o.op with|.select ..=>false|_=>true)
theorem execOp_rho{n:Nat}{σ:Env}{ds:List Deferred}{a:Act}{o:Oper}(h:Fits n σ ds a)(hk:known σ o=true):execOp a.eval o=execOp (rho σ) o:=by
 simp only[known,Bool.and_eq_true,List.all_eq_true]at hk
 refine execOp_congr o (fun cs b hs=>by rw[hs]at hk;simp at hk) fun x hx=>?_
 have hx':x∈o.op.operands.toList:=by simpa using hx
 obtain⟨v,hv⟩:=Option.isSome_iff_exists.1 (hk.1 x hx')
 rw[eval_rho h hv]
 simp[rho,hv]
def pureN(P:Program):Sem Next→Option Next
 |.pure v=>some v
 |.program k=>pureN P (k P)
 |_=>none
theorem pureN_run{P:Program}:∀{s:Sem Next}{v:Next},pureN P s=some v→∀w,s.run P w=.ok v w:=by
 intro s
 induction s with
 |pure a=>intro v h w;simp only[pureN,Option.some.injEq]at h;subst h;rfl
 |program k ih=>intro v h w;simp only[pureN]at h;simp only[Sem.run];exact ih P h w
 |_=>intro v h;simp[pureN]at h
def wantE(ops:Array Oper)(σ:Env)(o:Oper):Option Bool:=
 match o.guard with
 |none=>some true
 |some (j,b)=>match(ops[j]?).bind (·.dst)with
  |none=>some false
  |some t=>match find σ t with
   |none=>none
   |some (.bool c)=>some (c==b)
   |some _=>some false
theorem wantE_spec{n:Nat}{σ:Env}{ds:List Deferred}{a:Act}{ops:Array Oper}{o:Oper}{b:Bool}(h:Fits n σ ds a)(hw:wantE ops σ o=some b):
 Region.wanted o (yielded ops a.tmps)=b:=by
 unfold wantE at hw
 unfold Region.wanted
 cases hg:o.guard with
 |none=>rw[hg]at hw;simpa using hw
 |some p=>
  obtain⟨j,b'⟩:=p
  rw[hg]at hw
  simp only at hw⊢
  cases ht:(ops[j]?).bind (·.dst)with
  |none=>
   rw[ht]at hw
   simp only[yielded,ht,Option.bind_none]
   simpa using hw
  |some t=>
   rw[ht]at hw
   simp only at hw
   cases hf:find σ t with
   |none=>rw[hf]at hw;simp at hw
   |some u=>
    rw[hf]at hw
    have:=h.vals t u hf
    simp only[yielded,ht,Option.bind_some,this]
    cases u<;>simp_all
abbrev Ext(w w':World):Prop:=RowKit.Below w.heap.size w w'
theorem Ext.refl(w:World):Ext w w:=RowKit.Below.refl _ _
theorem Ext.trans{a b c:World}(h:Ext a b)(k:Ext b c):Ext a c:=RowKit.Below.trans h (k.mono h.size)
theorem Ext.drew(w:World):Ext w {w with drawn:=w.drawn+1}:=⟨rfl,rfl,rfl,Nat.le_refl _,fun _ _=>rfl⟩
theorem Ext.cell{w w':World}(h:Ext w w'){a:Addr}{v:Value}(hc:w.cell? a=some v):w'.cell? a=some v:=by
 have hb:a.block<w.heap.size:=by
  rcases Nat.lt_or_ge a.block w.heap.size with h'|h'
  ·exact h'
  ·simp[World.cell?,Array.getElem?_eq_none h']at hc
 rw[RowKit.Below.cell h hb];exact hc
theorem Ext.block{w w':World}(h:Ext w w'){b:Nat}{o:Obj}(hb:w.heap[b]?=some o):w'.heap[b]?=some o:=by
 have:b<w.heap.size:=(Array.getElem?_eq_some_iff.1 hb).1
 rw[RowKit.Below.block h b this];exact hb
inductive Kd|seq|qui|chn
section
variable(P:Program)(ops:Array Oper)
def OW(o:Oper)(a:Act)(w:World)(K:Act→World→Prop):Prop:=
 if Region.wanted o (yielded ops a.tmps)then o.wp P a w K (fun _ _ _=>False)else K (a.put o.dst undef) w
def Stable(o:Oper)(v:Value)(a:Act)(w:World):Prop:=
 (Region.wanted o (yielded ops a.tmps)=true∧∀w',Ext w w'→(execOp a.eval o).run P w'=.ok (.value v) w')∨
 (Region.wanted o (yielded ops a.tmps)=false∧v=undef)
variable(n:Nat)(ds:List Deferred)
def OpK(o:Oper)(κ:Kd)(σ:Env)(w:World)(K:Env→World→Prop):Prop:=
 ∀a,Fits n σ ds a→match κ with
  |.seq=>OW P ops o a w fun a' w'=>∃σ',Fits n σ' ds a'∧K σ' w'
  |.chn=>OW P ops o a w fun a' w'=>Ext w w'∧∃σ',Fits n σ' ds a'∧K σ' w'
  |.qui=>∃v,Stable P ops o v a w∧∃σ',Fits n σ' ds (a.put o.dst v)∧K σ' w
def RW(K:Env→World→Prop):List (Nat×Kd)→Env→World→Prop
 |[],σ,w=>K σ w
 |(i,κ)::r,σ,w=>∃o,ops[i]?=some o∧OpK P ops n ds o κ σ w (RW K r)
end
section
variable{P:Program}{ops:Array Oper}
theorem Oper.wp_monoQ{o:Oper}{a:Act}{w:World}{K:Act→World→Prop}{Q:Exit→Act→World→Prop}
 (hh:o.wp P a w K (fun _ _ _=>False)):o.wp P a w K Q:=by
 unfold Oper.wp at*
 generalize(execOp a.eval o).run P w=r at*
 cases r with
 |ok x w'=>
  cases x<;>simp only[Oper.upon]at hh⊢<;>first
   |exact hh
   |exact Calls.mono hh (fun e w'' he=>by
    cases e with
    |returned v=>exact he
    |panicked c=>exact he.elim
    |outgrown=>obtain⟨_,_,h⟩:=he;exact h.elim)
 |halt x w'=>cases x<;>simp only[Oper.upon]at hh
theorem OW.mono{o:Oper}{a:Act}{w:World}{K K':Act→World→Prop}(h:∀a w,K a w→K' a w)(hh:OW P ops o a w K):OW P ops o a w K':=by
 unfold OW at*
 split
 ·rename_i hw;rw[if_pos hw]at hh;exact Oper.wp_mono h hh
 ·rename_i hw;rw[if_neg hw]at hh;exact h _ _ hh
theorem OW.wpOp{o:Oper}{i:Nat}{a:Act}{w:World}{K:Act→World→Prop}{Q:Exit→Act→World→Prop}(hi:ops[i]?=some o)(h:OW P ops o a w K):wpOp P ops Q i K a w:=by
 unfold OW at h
 unfold Go.wpOp
 simp only[hi]
 split
 ·rename_i hw;rw[if_pos hw]at h;exact .inl (Oper.wp_monoQ h)
 ·rename_i hw;rw[if_neg hw]at h;exact h
theorem Stable.ow{o:Oper}{v:Value}{a:Act}{w:World}(h:Stable P ops o v a w){K:Act→World→Prop}(hk:K (a.put o.dst v) w):OW P ops o a w K:=by
 unfold OW
 rcases h with⟨hw,hv⟩|⟨hw,rfl⟩
 ·rw[if_pos hw];simp only[Oper.wp,hv w (Ext.refl w),Oper.upon];exact hk
 ·rw[if_neg (by simp[hw])];exact hk
theorem Stable.of_same{o:Oper}{v:Value}{a a':Act}{w:World}(hy:Stable P ops o v a w)(he:execOp a'.eval o=execOp a.eval o)
 (hw:Region.wanted o (yielded ops a'.tmps)=Region.wanted o (yielded ops a.tmps)):Stable P ops o v a' w:=by
 unfold Stable at*
 rw[he,hw]
 exact hy
theorem Stable.ext{o:Oper}{v:Value}{a:Act}{w w':World}(hy:Stable P ops o v a w)(h:Ext w w'):Stable P ops o v a w':=
 hy.imp (fun⟨a,b⟩=>⟨a,fun w'' h'=>b w'' (h.trans h')⟩) id
theorem OpK.seq{n:Nat}{ds:List Deferred}{o:Oper}{κ:Kd}{σ:Env}{w:World}{K:Env→World→Prop}(h:OpK P ops n ds o κ σ w K):OpK P ops n ds o .seq σ w K:=by
 intro a ha
 have:=h a ha
 cases κ with
 |seq=>exact this
 |chn=>exact OW.mono (fun _ _ h=>h.2) this
 |qui=>obtain⟨v,hs,hk⟩:=this;exact hs.ow hk
theorem OpK.mono{n:Nat}{ds:List Deferred}{o:Oper}{κ:Kd}{σ:Env}{w:World}{K K':Env→World→Prop}(hK:∀σ w,K σ w→K' σ w)(h:OpK P ops n ds o κ σ w K):OpK P ops n ds o κ σ w K':=by
 intro a ha
 have:=h a ha
 cases κ with
 |seq=>exact OW.mono (fun _ _⟨σ',hf,hk⟩=>⟨σ',hf,hK _ _ hk⟩) this
 |chn=>exact OW.mono (fun _ _⟨he,σ',hf,hk⟩=>⟨he,σ',hf,hK _ _ hk⟩) this
 |qui=>obtain⟨v,hs,σ',hf,hk⟩:=this;exact⟨v,hs,σ',hf,hK _ _ hk⟩
theorem RW.append{n:Nat}{ds:List Deferred}{K:Env→World→Prop}:∀(l l':List (Nat×Kd))(σ:Env)(w:World),RW P ops n ds K (l++l') σ w→RW P ops n ds (RW P ops n ds K l') l σ w
 |[],_,_,_,h=>h
 |(_,_)::r,l',_,_,⟨o,ho,h⟩=>⟨o,ho,OpK.mono (fun σ w h=>RW.append r l' σ w h) h⟩
theorem RW.wpOps{n:Nat}{ds:List Deferred}{K:Env→World→Prop}{Q:Exit→Act→World→Prop}(hQ:∀a w σ,Fits n σ ds a→K σ w→Q .normal a w):
 ∀(l:List (Nat×Kd))(σ:Env)(w:World)(a:Act),Fits n σ ds a→RW P ops n ds K l σ w→wpOps P ops Q (l.map (·.1)) a w
 |[],σ,w,a,hf,h=>hQ a w σ hf h
 |(i,κ)::r,σ,w,a,hf,⟨o,ho,h⟩=>by
  simp only[List.map_cons]
  rw[wpOps_cons]
  exact OW.wpOp ho (OW.mono (fun a' w'⟨σ',hf',hk⟩=>RW.wpOps hQ r σ' w' a' hf' hk) (h.seq a hf))
def OpE(P:Program)(ops:Array Oper)(i:Nat)(K:Act→World→Prop)(a:Act)(w:World):Prop:=∃o,ops[i]?=some o∧OW P ops o a w K
def wpHd(P:Program)(ops:Array Oper)(nt:Nat)(L:Array Bool→Act→World→Prop):Nat→Array Bool→Act→World→Prop
 |0,listed,a,w=>L listed a w
 |f+1,listed,a,w=>Region.ready .any ops listed≠[]∧
  ∀i∈Region.ready .any ops listed,i<nt∧OpE P ops i (fun a' w'=>Ext w w'∧wpHd P ops nt L f (listed.setIfInBounds i true) a' w') a w
theorem wpAny_of_hd{nt g:Nat}{L:Array Bool→Act→World→Prop}{Q':Exit→Act→World→Prop}(hL:∀listed a w,L listed a w→wpAny P .any ops Q' g listed a w):
 ∀(f:Nat)(listed:Array Bool)(a:Act)(w:World),wpHd P ops nt L f listed a w→wpAny P .any ops Q' (f+g) listed a w
 |0,listed,a,w,h=>by rw[Nat.zero_add];exact hL _ _ _ h
 |f+1,listed,a,w,h=>by
  rw[show f+1+g=(f+g)+1 by omega]
  refine⟨fun h0=>absurd h0 h.1,fun i hi=>?_⟩
  obtain⟨_,o,ho,h1⟩:=h.2 i hi
  exact OW.wpOp ho (OW.mono (fun a' w' h'=>wpAny_of_hd hL f _ a' w' h'.2) h1)
theorem ow_put{oi oj:Oper}{v:Value}(hap:oi.apart ops oj=true)
 (hsi:∀cs b,oi.op≠.select cs b)(hsj:∀cs b,oj.op≠.select cs b){K:Act→World→Prop}{a:Act}{w:World}
 (hy:Stable P ops oi v a w)(h:OW P ops oj (a.put oi.dst v) w (fun a' w'=>Ext w w'∧K a' w')):
 OW P ops oj a w (fun a' w'=>Ext w w'∧Stable P ops oi v a' w'∧K (a'.put oi.dst v) w'):=by
 obtain⟨i,g,j⟩:=Oper.apart_spec hap
 have keep:∀(a:Act)(w':World),Stable P ops oi v a w→Ext w w' → ∀ u, Stable P ops oi v (a.put oj.dst u) w' := fun a w' hy he u =>
  (hy.of_same (execOp_put oi hsi a oj.dst u j) (wanted_put oi a oj.dst u j)).ext he
 unfold OW at *
 rw[wanted_put oj a oi.dst v i]at h
 split
 · rename_i hw
   rw[if_pos hw]at h
   unfold Oper.wp at*
   rw[execOp_put oj hsj a oi.dst v i]at h
   generalize(execOp a.eval oj).run P w=r at*
   cases r with
   |ok x w'=>
    cases x<;>simp only[Oper.upon]at h⊢
    case value u=>exact⟨h.1,keep a w' hy h.1 u,by rw[←Act.put_comm a v u g];exact h.2⟩
    case skip=>exact⟨h.1,keep a w' hy h.1 _,by rw[←Act.put_comm a v undef g];exact h.2⟩
    case defer d=>
     refine⟨h.1,keep {a with defers:=d::a.defers} w' (hy.of_same rfl rfl) h.1 _,?_⟩
     rw[←Act.put_comm _ v undef g,←Act.put_defers]
     exact h.2
    case enter f args=>
     refine Calls.mono h fun e w'' he=>?_
     cases e with
     |returned u=>exact⟨he.1,keep a w'' hy he.1 u,by rw[←Act.put_comm a v u g];exact he.2⟩
     |panicked c=>exact he
     |outgrown=>obtain⟨_,_,h⟩:=he;exact h.elim
    case row r args=>exact Rows.mono h fun u w'' he=>⟨he.1,keep a w'' hy he.1 u,by rw[←Act.put_comm a v u g];exact he.2⟩
   |halt x w' => cases x <;> simp only[Oper.upon]at h
 · rename_i hw
   rw[if_neg hw]at h
   exact⟨h.1, keep a w hy h.1 _, by rw[← Act.put_comm a v undef g]; exact h.2⟩
theorem wpHd_first{nt i:Nat}{oi:Oper}{v:Value}{L:Array Bool→Act→World→Prop}(hi:ops[i]?=some oi)(hsel:∀(j:Nat)(o:Oper)cs b,ops[j]?=some o→o.op≠.select cs b)
 (hin:i<nt)(hjn:∀listed,HeadInv .any ops nt listed→listed.getD i true=false→∀j∈Region.ready .any ops listed,j<nt)
 (hdone:∀listed a w,L listed a w→∀j∈Region.ready .any ops listed,nt≤j):
 ∀(f:Nat)(listed:Array Bool)(a:Act)(w:World),HeadInv .any ops nt listed→
  (∀j oj,ops[j]?=some oj→j≠i→listed.getD j true=false→(∀e∈oj.after,Region.binds .any e=true→e.on≠i)→oi.apart ops oj=true)→
  i∈Region.ready .any ops listed→Stable P ops oi v a w→
  wpHd P ops nt L f (listed.setIfInBounds i true) (a.put oi.dst v) w→wpHd P ops nt L (f+1) listed a w:=by
 intro f
 induction f with
 |zero=>
  intro listed a w inv _ hr hy H
  have hun:=(mem_ready.1 hr).1
  refine⟨fun h=>(by rw[h]at hr;cases hr),fun j hj =>⟨hjn listed inv hun j hj, ?_⟩⟩
  by_cases hji : j = i
  · subst hji; exact⟨oi, hi, hy.ow ⟨Ext.refl w, H⟩⟩
  · have := hdone _ _ _ H j (ready_mono hj hji)
    have :=hjn listed inv hun j hj
    omega
 |succ f ih=>
  intro listed a w inv hfree hr hy H
  have hun:=(mem_ready.1 hr).1
  refine⟨fun h=>(by rw[h]at hr;cases hr),fun j hj=>⟨hjn listed inv hun j hj,?_⟩⟩
  have hjlt:=hjn listed inv hun j hj
  by_cases hji:j = i
  · subst hji; exact⟨oi, hi, hy.ow ⟨Ext.refl w, H⟩⟩
  · obtain⟨_, oj', hoj', c⟩:= H.2 j (ready_mono hj hji)
    obtain⟨hjun, oj, hoj, hall⟩:=mem_ready.1 hj
    have:oj'=oj:=Option.some.inj (hoj'.symm.trans hoj)
    subst this
    have hnot:∀e∈oj'.after,Region.binds .any e=true→e.on≠i:=fun e he hb heq=>by
     have c:=hall e he hb
     rw[heq,getD_both hun]at c
     cases c
    have g:=ow_put (hfree j oj' hoj hji hjun hnot) (fun cs b=>hsel i oi cs b hi) (fun cs b=>hsel j oj' cs b hoj) hy c
    have hfree':∀k ok,ops[k]?=some ok→k≠i→(listed.setIfInBounds j true).getD k true=false→
     (∀e∈ok.after,Region.binds .any e=true→e.on≠i)→oi.apart ops ok=true:=fun k ok hk hki hun hno=>by
     refine hfree k ok hk hki ?_ hno
     by_cases hjk:j=k
     ·subst hjk;exact hjun
     ·rw[getD_set_ne true hjk]at hun;exact hun
    refine⟨oj',hoj,OW.mono (fun a' w' d=>⟨d.1,ih (listed.setIfInBounds j true) a' w' (inv.set hj hjlt) hfree' (ready_mono hr (Ne.symm hji)) d.2.1 ?_⟩) g⟩
    rw[Array.setIfInBounds_comm _ _ hji]
    exact d.2.2
def canHead(ops:Array Oper)(nt:Nat):List (Nat×Kd)→Array Bool→Option (Array Bool)
 |[],listed=>some listed
 |(i,.qui)::r,listed=>if(Region.ready .any ops listed).contains i&&Region.free .any ops listed i&&decide (i<nt)then canHead ops nt r (listed.setIfInBounds i true)else none
 |(i,.chn)::r,listed=>if decide (Region.ready .any ops listed=[i])&&decide (i<nt)then canHead ops nt r (listed.setIfInBounds i true)else none
 |(_,.seq)::_,_=>none
def drawB(ops:Array Oper)(nt:Nat)(l:List (Nat×Kd)):Bool:=
 Region.noSelect ops&&decide (nt≤ops.size)&&decide (l.length=nt)&&(decide (nt=ops.size)||(Region.sinkB .any ops nt&&Region.chainB .any ops nt))&&
 match canHead ops nt l (Array.replicate ops.size false)with
 |some listed=>Region.seqB .any ops (ops.size-nt) nt listed
 |none=>false
theorem ready_lt{listed:Array Bool}{j:Nat}(h:j∈Region.ready .any ops listed):j<ops.size:=by
 obtain⟨_,o,ho,_⟩:=mem_ready.1 h
 exact(Array.getElem?_eq_some_iff.1 ho).1
theorem wpHd_of_RW{n nt:Nat}{ds:List Deferred}{K:Env→World→Prop}{g:Nat}(hsel:Region.noSelect ops=true)
 (hjn:∀listed i,HeadInv .any ops nt listed→i<nt→listed.getD i true=false→∀j∈Region.ready .any ops listed,j<nt)(listed':Array Bool)(hseq:Region.seqB .any ops g nt listed'=true):
 ∀(l:List (Nat×Kd))(listed:Array Bool)(a:Act)(w:World)(σ:Env),HeadInv .any ops nt listed→canHead ops nt l listed=some listed'→Fits n σ ds a→RW P ops n ds K l σ w→
 wpHd P ops nt (fun lst a' w'=>lst=listed'∧∃σ',Fits n σ' ds a'∧K σ' w') l.length listed a w
 |[],listed,a,w,σ,_,hB,hf,h=>by
  simp only[canHead,Option.some.injEq]at hB
  exact⟨hB,σ,hf,h⟩
 |(i,κ)::r,listed,a,w,σ,inv,hB,hf,⟨o,ho,h⟩=>by
  have h1:=h a hf
  cases κ with
  |seq=> simp[canHead]at hB
  | qui =>
   simp only[canHead]at hB
   split at hB
   · rename_i hc
     simp only[Bool.and_eq_true, decide_eq_true_eq]at hc
     obtain⟨v, hs, σ', hf', hk⟩:= h1
     have hr':i∈Region.ready .any ops listed:=by simpa using hc.1.1
     exact wpHd_first ho (Region.noSelect_spec hsel) hc.2 (fun lst hinv hun=>hjn lst i hinv hc.2 hun)
      (fun lst a' w' hL=>by rw[hL.1]; exact seqB_ready hseq) r.length listed a w inv (Region.free_spec ho hc.1.2) hr' hs
      (wpHd_of_RW hsel hjn listed' hseq r _ _ w σ' (inv.set hr' hc.2) hB hf' hk)
   · cases hB
  | chn =>
   simp only[canHead]at hB
   split at hB
   · rename_i hc
     simp only[Bool.and_eq_true, decide_eq_true_eq]at hc
     refine⟨by rw[hc.1]; simp, fun j hj =>?_⟩
     have hr' :i∈Region.ready .any ops listed:=by rw[hc.1];simp
     rw[hc.1]at hj
     obtain rfl:j=i:=by simpa using hj
     exact⟨hc.2,o,ho,OW.mono (fun a' w'⟨he,σ',hf',hk⟩=>⟨he,wpHd_of_RW hsel hjn listed' hseq r _ a' w' σ' (inv.set hr' hc.2) hB hf' hk⟩) h1⟩
   ·cases hB
theorem RW.wpList{n:Nat}{ds:List Deferred}{K:Env→World→Prop}{Q:Exit→Act→World→Prop}(hQ:∀a w σ,Fits n σ ds a→K σ w→Q .normal a w):
 ∀(l:List Oper)(k:Nat)(σ:Env)(w:World)(a:Act),(∀j,j<l.length→l[j]?=ops[k+j]?)→Fits n σ ds a→RW P ops n ds K ((List.range' k l.length).map (·,Kd.seq)) σ w→wpList P ops Q l a w
 |[],k,σ,w,a,_,hf,h=>hQ a w σ hf h
 |o::l,k,σ,w,a,hl,hf,h=>by
  simp only[List.length_cons,List.range'_succ,List.map_cons]at h
  obtain⟨o',ho',h⟩:=h
  have h0:ops[k]?=some o:=by simpa using(hl 0 (by simp)).symm
  have:o'=o:=Option.some.inj (ho'.symm.trans h0)
  subst this
  have h1:=h a hf
  have h2:OW P ops o' a w (Go.wpList P ops Q l):=OW.mono (fun a' w'⟨σ',hf',hk⟩=>
   RW.wpList hQ l (k+1) σ' w' a' (fun j hj=>by have:=hl (j+1) (by simp;omega);simpa[Nat.add_assoc,Nat.add_comm 1 j]using this) hf' hk) h1
  unfold OW at h2
  unfold Go.wpList
  split
  ·rename_i hw;rw[if_pos hw]at h2;exact .inl (Oper.wp_monoQ h2)
  ·rename_i hw;rw[if_neg hw]at h2;exact h2
def tailOf(nt size:Nat):List (Nat×Kd):=(List.range' nt (size-nt)).map (·,Kd.seq)
theorem RW.draw{n:Nat}{ds:List Deferred}{K:Env→World→Prop}{Q:Exit→Act→World→Prop}(hQ:∀a w σ,Fits n σ ds a→K σ w→Q .normal a w)
 {id:Nat}(hm:P.follows .mixedOrders=true)(nt:Nat)(l:List (Nat×Kd))(hB:drawB ops nt l=true){σ:Env}{a:Act}{w:World}(hf:Fits n σ ds a)
 (h:RW P ops n ds K (l++tailOf nt ops.size) σ {w with drawn:=w.drawn+1}):(Code.region id ops true).wp P Q a w:=by
 simp only[drawB,Bool.and_eq_true,decide_eq_true_eq,Bool.or_eq_true]at hB
 obtain⟨⟨⟨⟨hsel,hnt⟩,hlen⟩,htail⟩,hcan⟩:=hB
 cases hc:canHead ops nt l (Array.replicate ops.size false)with
 |none=>rw[hc]at hcan;cases hcan
 |some listed'=>
  rw[hc]at hcan
  simp only at hcan
  have inv:HeadInv .any ops nt (Array.replicate ops.size false):=⟨by simp,fun j oj _ hl=>(by rw[getD_replicate_false]at hl;cases hl),fun t _ ht=>(by simp[ht])⟩
  have hjn:∀listed i,HeadInv .any ops nt listed→i<nt→listed.getD i true=false→∀j∈Region.ready .any ops listed,j < nt := by
   intro listed i hinv hi hun j hj
   rcases htail with b |⟨hs, hch⟩
   · rw[b]; exact ready_lt hj
   · rcases Nat.lt_or_ge j nt with h' | h'
     · exact h'
     · have hjl := ready_lt hj
       exact absurd hj (tail_waits hs hch (by omega) hinv _ i rfl hi hun j h')
  have hd := wpHd_of_RW (K := RW P ops n ds K (tailOf nt ops.size)) hsel hjn listed' hcan l _ a {w with drawn := w.drawn+1} σ inv hc hf (RW.append l _ σ _ h)
  refine wp_region_any hm ?_
  have hsz:ops.size=l.length+(ops.size-nt):=by omega
  rw[hsz]
  have hda:(Array.replicate (l.length+(ops.size-nt)) false)=Array.replicate ops.size false:=by rw[←hsz]
  rw[hda]
  refine wpAny_of_hd (fun listed a' w' hL=>?_) _ _ _ _ hd
  obtain⟨rfl,σ',hf',hk⟩:=hL
  have hlt:(ops.toList.drop nt).length=ops.size-nt:=by simp
  rw[←hlt]at hcan⊢
  refine wpAny_of_seq (ops.toList.drop nt) nt listed a' w' (fun j=>by simp) hcan ?_
  exact RW.wpList hQ (ops.toList.drop nt) nt σ' w' a' (fun j _=>by simp) hf' (by rw[hlt];exact hk)
end
def WK(P:Program)(f:FuncId)(n:Nat)(todo:List Item)(σ:Env)(ds:List Deferred)(w:World)(R:Ending→World→Prop):Prop:=
 ∀(b:Frame)(a:Act)(cs:List Frame),b.fn=f→b.kind=.normal→Fits n σ ds a→
  ∃e w' fr,R e w'∧Comes P (lone (b.at a todo) cs w) (lone fr cs w') e∧fr.fn=f∧fr.leaving P w' e
section
variable{P:Program}{f:FuncId}{n:Nat}{σ:Env}{ds:List Deferred}{w:World}{R:Ending→World→Prop}
theorem WK.calls{fn:Func}{args:Array Value}{c:Code}(hf:P.funcs[f]?=some fn)(hb:fn.body=some c)(ha:args.size≤fn.ntmps)
 (hσ:∀t v,find σ t=some v→args[t]?=some v)(h:WK P f fn.ntmps [.code c] σ [] w R):Calls P f args w R:=by
 intro cs
 let b:Frame:={(default:Frame)with fn:=f,kind:=.normal}
 have henter:Frame.enter P f args .normal=b.at {tmps:=args++Array.replicate (fn.ntmps-args.size) undef,defers:=[]} [.code c]:=by
  simp[Frame.enter,Frame.at,hf,hb,b]
 rw[henter]
 refine h b _ cs rfl rfl ⟨by simp;omega,rfl,fun t v hv=>?_⟩
 have:=hσ t v hv
 have hlt:t<args.size:=(Array.getElem?_eq_some_iff.1 this).1
 simp only
 rw[Array.getElem?_append_left hlt];exact this
theorem WK.steps{todo todo':List Item}{σ':Env}
 (hs:∀(b:Frame)(a:Act)(cs:List Frame),b.fn=f→b.kind=.normal→Fits n σ ds a→∃a',Fits n σ' ds a'∧Steps P (lone (b.at a todo) cs w) (lone (b.at a' todo') cs w))
 (h:WK P f n todo' σ' ds w R):WK P f n todo σ ds w R:=by
 intro b a cs c d g
 obtain⟨a',hf',hst⟩:=hs b a cs c d g
 obtain⟨e,w',fr,r,hc,rest⟩:=h b a' cs c d hf'
 exact⟨e,w',fr,r,.of_steps hst hc,rest⟩
theorem WK.sub{todo:List Item}{σ':Env}(hs:∀t v,find σ' t=some v→find σ t=some v)(h:WK P f n todo σ' ds w R):WK P f n todo σ ds w R:=
 fun b a cs h1 h2 h3=>h b a cs h1 h2 (h3.sub hs)
theorem WK.mono{todo:List Item}{R':Ending→World→Prop}(hr:∀e w,R e w→R' e w)(h:WK P f n todo σ ds w R):WK P f n todo σ ds w R':=
 fun b a cs h1 h2 h3=>let⟨e,w',fr,r,rest⟩:=h b a cs h1 h2 h3;⟨e,w',fr,hr _ _ r,rest⟩
theorem WK.code{c:Code}{k:List Item}
 (h:∀a,Fits n σ ds a→c.wp P (fun e a' w'=>match e with|.normal=>∃σ',Fits n σ' ds a'∧WK P f n k σ' ds w' R|_=>False) a w):WK P f n (.code c::k) σ ds w R:=by
 intro b a cs d g i
 obtain⟨e,a',w',hq,harr⟩:=h a i b k cs
 cases e with
 |normal=>
  obtain⟨σ',hf',hk⟩:=hq
  obtain⟨e,w'',fr,r,hc,rest⟩:=hk b a' cs d g hf'
  exact⟨e,w'',fr,r,.of_steps harr hc,rest⟩
 |_=>exact hq.elim
theorem WK.reg{ops:Array Oper}{id:Nat}{c:Code}{k:List Item}{l:List (Nat×Kd)}(hc:c=.region id ops false)(hl:l.map (·.1)=List.range ops.size)
 (h:RW P ops n ds (fun σ' w'=>WK P f n k σ' ds w' R) l σ w):WK P f n (.code c::k) σ ds w R:=by
 subst hc
 refine WK.code fun a ha=>wp_region ?_
 rw[←hl]
 exact RW.wpOps (fun a w σ hf hk=>⟨σ,hf,hk⟩) l σ w a ha h
theorem WK.draw{ops:Array Oper}{id:Nat}{c:Code}{k:List Item}(nt:Nat)(l l':List (Nat×Kd))(hm:P.follows .mixedOrders=true)(hc:c=.region id ops true)(hB:drawB ops nt l=true)
 (hl:l++tailOf nt ops.size=l')(h:RW P ops n ds (fun σ' w'=>WK P f n k σ' ds w' R) l' σ {w with drawn:=w.drawn+1}):WK P f n (.code c::k) σ ds w R:=by
 subst hc
 subst hl
 exact WK.code fun a ha=>RW.draw (fun a w σ hf hk=>⟨σ,hf,hk⟩) hm nt l hB ha h
def runOp(P:Program)(n:Nat)(ops:Array Oper)(o:Oper)(σ:Env):Option Env:=
 match wantE ops σ o with
 |none=>none
 |some false=>match o.dst with
  |some d=>cond (Nat.blt d n) (some ((d,undef)::σ)) none
  |none=>some σ
 |some true=>
  cond (known σ o) (match pureN P (execOp (rho σ) o)with
   |some (.value v)=>match o.dst with
    |some d=>cond (Nat.blt d n) (some ((d,v)::σ)) none
    |none=>some σ
   |_=>none) none
theorem runOp_spec{ops:Array Oper}{o:Oper}{σ σ':Env}(h:runOp P n ops o σ=some σ'):∀a,Fits n σ ds a→∃v,(∀w,Stable P ops o v a w)∧Fits n σ' ds (a.put o.dst v):=by
 intro a ha
 unfold runOp at h
 have fin:∀v,(match o.dst with|some d=>cond (Nat.blt d n) (some ((d,v)::σ)) none|none=>some σ)=some σ'→Fits n σ' ds (a.put o.dst v):=by
  intro v h
  cases hd:o.dst with
  |none=>rw[hd]at h;simp only[Option.some.injEq]at h;subst h;exact ha
  |some d=>
   rw[hd]at h
   simp only at h
   cases hb:Nat.blt d n with
   |false=>rw[hb]at h;simp at h
   |true=>
    rw[hb]at h
    simp only[cond_true,Option.some.injEq]at h
    subst h
    have hlt:d+1≤n:=by simpa[Nat.blt]using hb
    exact ha.put (d:=d) (Nat.lt_of_succ_le hlt) v
 cases hw:wantE ops σ o with
 |none=>rw[hw]at h;cases h
 |some b=>
  rw[hw]at h
  have hwant:=wantE_spec ha hw
  cases b with
  |false=>exact⟨undef,fun w=>.inr ⟨hwant,rfl⟩,fin undef h⟩
  |true=>
   simp only at h
   cases hk:known σ o with
   |false=>rw[hk]at h;simp at h
   |true=>
    rw[hk]at h
    simp only[cond_true]at h
    cases hp:pureN P (execOp (rho σ) o)with
    |none=>rw[hp]at h;cases h
    |some x=>
     rw[hp]at h
     cases x with
     |value v=>exact⟨v,fun w=>.inl ⟨hwant,fun w' _=>by rw[execOp_rho ha hk];exact pureN_run hp w'⟩,fin v h⟩
     |_=>simp at h
def rrun(P:Program)(n:Nat)(ops:Array Oper):Nat→List (Nat×Kd)→Env→Option (List (Nat×Kd)×Env)
 |0,l,σ=>some (l,σ)
 |m+1,(i,_)::r,σ=>match ops[i]? with
  |none=>none
  |some o=>match runOp P n ops o σ with
   |none=>none
   |some σ'=>rrun P n ops m r σ'
 |_+1,[],_=>none
theorem opK_stable{ops:Array Oper}{o:Oper}{κ:Kd}{K:Env→World→Prop}(h:∀a,Fits n σ ds a→∃v,Stable P ops o v a w∧∃σ',Fits n σ' ds (a.put o.dst v)∧K σ' w):OpK P ops n ds o κ σ w K:=by
 intro a ha
 obtain⟨v,hs,σ',hf,hk⟩:=h a ha
 cases κ with
 |seq=>exact hs.ow ⟨σ',hf,hk⟩
 |chn=>exact hs.ow ⟨Ext.refl w,σ',hf,hk⟩
 |qui=>exact⟨v,hs,σ',hf,hk⟩
theorem rrun_spec{ops:Array Oper}{K:Env→World→Prop}:∀(m:Nat)(l l':List (Nat×Kd))(σ σ':Env),rrun P n ops m l σ=some (l',σ')→RW P ops n ds K l' σ' w→RW P ops n ds K l σ w
 |0,l,l',σ,σ',h,hk=>by simp only[rrun,Option.some.injEq,Prod.mk.injEq]at h;obtain⟨rfl,rfl⟩:=h;exact hk
 |m+1,[],l',σ,σ',h,hk=>by simp[rrun]at h
 |m+1,(i,κ)::r,l',σ,σ',h,hk=>by
  simp only[rrun]at h
  cases ho:ops[i]? with
  |none=>rw[ho]at h;cases h
  |some o=>
   rw[ho]at h
   simp only at h
   cases hr:runOp P n ops o σ with
   |none=>rw[hr]at h;cases h
   |some σ1=>
    rw[hr]at h
    refine⟨o,ho,opK_stable fun a ha=>?_⟩
    obtain⟨v,hs,hf⟩:=runOp_spec (ds:=ds) hr a ha
    exact⟨v,hs w,σ1,hf,rrun_spec m r l' σ1 σ' h hk⟩
theorem RW.sub{ops:Array Oper}{K:Env→World→Prop}{l:List (Nat×Kd)}{σ':Env}(hl:l≠[])(hs:∀t v,find σ' t=some v→find σ t=some v)(h:RW P ops n ds K l σ' w):RW P ops n ds K l σ w:=by
 cases l with
 |nil=>exact absurd rfl hl
 |cons x r=>
  obtain⟨i,κ⟩:=x
  obtain⟨o,ho,h⟩:=h
  exact⟨o,ho,fun a ha=>h a (ha.sub hs)⟩
theorem RW.run{ops:Array Oper}{K:Env→World→Prop}{l:List (Nat×Kd)}(m:Nat)(l':List (Nat×Kd))(σ':Env)(h:rrun P n ops m l σ=some (l',σ'))(hk:RW P ops n ds K l' σ' w):RW P ops n ds K l σ w:=
 rrun_spec m l l' σ σ' h hk
theorem RW.runP{ops:Array Oper}{K:Env→World→Prop}{l:List (Nat×Kd)}(m:Nat)(live:List Nat)(l':List (Nat×Kd))(σ':Env)(h:(rrun P n ops m l σ).map (fun x=>(x.1,pick live x.2))=some (l',σ'))(hl:l'.isEmpty=false)(hk:RW P ops n ds K l' σ' w):RW P ops n ds K l σ w:=by
 cases hr:rrun P n ops m l σ with
 |none=>rw[hr]at h;cases h
 |some x=>
  obtain⟨a,σ1⟩:=x
  rw[hr]at h
  simp only[Option.map_some,Option.some.injEq,Prod.mk.injEq]at h
  obtain⟨rfl,rfl⟩:=h
  exact rrun_spec m l a σ σ1 hr (RW.sub (by intro e;subst e;cases hl) (pick_find σ1 live) hk)
theorem RW.fin{ops:Array Oper}{k:List Item}{l:List (Nat×Kd)}(m:Nat)(live:List Nat)(σ':Env)(h:(rrun P n ops m l σ).map (fun x=>(x.1,pick live x.2))=some ([],σ'))(hk:WK P f n k σ' ds w R):
 RW P ops n ds (fun σ' w'=>WK P f n k σ' ds w' R) l σ w:=by
 cases hr:rrun P n ops m l σ with
 |none=>rw[hr]at h;cases h
 |some x=>
  obtain⟨_,σ1⟩:=x
  rw[hr]at h
  simp only[Option.map_some,Option.some.injEq,Prod.mk.injEq]at h
  obtain⟨rfl,rfl⟩:=h
  exact rrun_spec m l [] σ σ1 hr (WK.sub (pick_find σ1 live) hk)
def step1(P:Program)(n:Nat):List Item→Env→Option (List Item×Env)
 |.code .skip::k,σ=>some (k,σ)
 |.code (.label _)::k,σ=>some (k,σ)
 |.inBlock _::k,σ=>some (k,σ)
 |.inScope _::k,σ=>some (k,σ)
 |.code (.seq a b)::k,σ=>some (.code a::.code b::k,σ)
 |.code (.cond c x y)::k,σ=>match ev σ c with
  |some (.bool true)=>some (.code x::k,σ)
  |some (.bool false)=>some (.code y::k,σ)
  |_=>none
 |.code (.block id c)::k,σ=>some (.code c::.inBlock id::k,σ)
 |.code (.scope c)::k,σ=>some (.code c::.inScope c::k,σ)
 |.code (.exit id)::k,σ=>match exitTo id k with
  |some k'=>some (k',σ)
  |none=>none
 |.code (.region _ ops false)::k,σ=>match rrun P n ops ops.toList.length ((List.range ops.toList.length).map (·,Kd.seq)) σ with
  |some ([],σ')=>some (k,σ')
  |_=>none
 |_,_=>none
theorem step_scope{b:Frame}{a:Act}{k:List Item}{cs:List Frame}{c:Code}:
 step P (lone (b.at a (.code (.scope c)::k)) cs w)=.next (lone (b.at a (.code c::.inScope c::k)) cs w):=
 step_lone_go (by simp[stepG,stepG.exec,Frame.at])
theorem step_inScope{b:Frame}{a:Act}{k:List Item}{cs:List Frame}{c:Code}:
 step P (lone (b.at a (.inScope c::k)) cs w)=.next (lone (b.at a k) cs w):=
 step_lone_go (by simp[stepG,stepG.exec,Frame.at])
theorem step1_spec{todo todo':List Item}{σ':Env}(h:step1 P n todo σ=some (todo',σ'))(hk:WK P f n todo' σ' ds w R):WK P f n todo σ ds w R:=by
 have one:∀{t t':List Item},(∀(b:Frame)(a:Act)(cs:List Frame),Fits n σ ds a→step P (lone (b.at a t) cs w)=.next (lone (b.at a t') cs w))→WK P f n t' σ ds w R→WK P f n t σ ds w R:=
  fun hs hk=>WK.steps (fun b a cs _ _ hf=>⟨a,hf,.one (hs b a cs hf)⟩) hk
 unfold step1 at h
 split at h
 case h_10 k' _ ops k=>
  split at h
  · rename_i σ1 hr
    simp only[Option.some.injEq, Prod.mk.injEq]at h
    obtain⟨rfl, rfl⟩:= h
    refine WK.reg (l := (List.range ops.toList.length).map (·, Kd.seq)) rfl (by simp[List.map_map,Function.comp_def]) ?_
    exact rrun_spec _ _ _ _ _ hr hk
  ·cases h
 all_goals try(simp only[Option.some.injEq,Prod.mk.injEq]at h;obtain⟨rfl,rfl⟩:=h)
 ·exact one (fun b a cs _=>step_skip) hk
 ·exact one (fun b a cs _=>step_label) hk
 ·exact one (fun b a cs _=>step_inBlock) hk
 ·exact one (fun b a cs _=>step_inScope) hk
 · exact one (fun b a cs _ => step_seq) hk
 · split at h
   · rename_i hc
     simp only[Option.some.injEq, Prod.mk.injEq]at h
     obtain⟨rfl, rfl⟩:= h
     refine one (fun b a cs hf =>?_) hk
     rw[step_cond (eval_rho hf hc), if_pos rfl]
   · rename_i hc
     simp only[Option.some.injEq, Prod.mk.injEq]at h
     obtain⟨rfl, rfl⟩:=h
     refine one (fun b a cs hf=>?_) hk
     rw[step_cond (eval_rho hf hc),if_neg (by simp)]
   ·cases h
 ·exact one (fun b a cs _=> step_block) hk
 · exact one (fun b a cs _ => step_scope) hk
 · split at h
   · rename_i hx
     simp only[Option.some.injEq,Prod.mk.injEq]at h
     obtain⟨rfl,rfl⟩:=h
     exact one (fun b a cs _=>step_exit hx) hk
   ·cases h
 ·cases h
def mrun(P:Program)(n:Nat):Nat→List Item→Env→Option (List Item×Env)
 |0,k,σ=>some (k,σ)
 |m+1,k,σ=>match step1 P n k σ with
  |some (k',σ')=>mrun P n m k' σ'
  |none=>none
theorem steps_spec:∀(m:Nat){todo todo':List Item}{σ σ':Env},mrun P n m todo σ=some (todo',σ')→WK P f n todo' σ' ds w R→WK P f n todo σ ds w R
 |0,_,_,_,_,h,hk=>by simp only[mrun,Option.some.injEq,Prod.mk.injEq]at h;obtain⟨rfl,rfl⟩:=h;exact hk
 |m+1,todo,todo',σ,σ',h,hk=>by
  simp only[mrun]at h
  cases hs:step1 P n todo σ with
  |none=>rw[hs]at h;cases h
  |some x=>
   obtain⟨k',σ1⟩:=x
   rw[hs]at h
   exact step1_spec hs (steps_spec m h hk)
theorem WK.run{todo:List Item}(m:Nat)(live:List Nat)(todo':List Item)(σ':Env)(h:(mrun P n m todo σ).map (fun x=>(x.1,pick live x.2))=some (todo',σ'))(hk:WK P f n todo' σ' ds w R):WK P f n todo σ ds w R:=by
 cases hr:mrun P n m todo σ with
 |none=>rw[hr]at h;cases h
 |some x=>
  obtain⟨_,σ1⟩:=x
  rw[hr]at h
  simp only[Option.map_some,Option.some.injEq,Prod.mk.injEq]at h
  obtain⟨rfl,rfl⟩:=h
  exact steps_spec m hr (WK.sub (pick_find σ1 live) hk)
theorem WK.test{todo:List Item}(F:Bool→Env)(b:Bool)(ht:b=true→WK P f n todo (F true) ds w R)(hf:b=false→WK P f n todo (F false) ds w R):WK P f n todo (F b) ds w R:=by
 cases b
 ·exact hf rfl
 ·exact ht rfl
theorem RW.test{ops:Array Oper}{K:Env→World→Prop}{l:List (Nat×Kd)}(F:Bool→Env)(b:Bool)(ht:b=true→RW P ops n ds K l (F true) w)(hf:b=false→RW P ops n ds K l (F false) w):RW P ops n ds K l (F b) w:=by
 cases b
 ·exact hf rfl
 ·exact ht rfl
theorem WK.loop{α:Type}{b:Code}{c:Code}{k:List Item}(hc:c=.loop b)(st:α→Env)(I:α→World→Prop)(μ:α→Nat)(x0:α)(h0:I x0 w)(hσ:st x0=σ)
 (hstep:∀x w,I x w→(∀x' w',I x' w'→μ x'<μ x→WK P f n (.inLoop b::k) (st x') ds w' R)→WK P f n (.code b::.inLoop b::k) (st x) ds w R):
 WK P f n (.code c::k) σ ds w R:=by
 subst hσ
 subst hc
 have all:∀m x w,I x w→μ x=m→WK P f n (.code b::.inLoop b::k) (st x) ds w R:=by
  intro m
  induction m using Nat.strongRecOn with
  |_ m ih=>
   intro x w hI hm
   refine hstep x w hI fun x' w' hI' hlt=>?_
   exact WK.steps (fun b a cs _ _ hf=>⟨a,hf,.one step_inLoop⟩) (ih (μ x') (by omega) x' w' hI' rfl)
 exact WK.steps (fun b a cs _ _ hf=>⟨a,hf,.one step_loop⟩) (all (μ x0) x0 w h0 rfl)
theorem WK.back{todo:List Item}{σ':Env}(h:WK P f n todo σ' ds w R)(hσ:σ'=σ):WK P f n todo σ ds w R:=hσ▸h
def resV(σ:Env)(l:Array ResultVar):Option Value:=
 match l.toList with
 |[]=>some (.tuple #[])
 |[.tmp t]=>find σ t
 |[.tmp t,.tmp u]=>(find σ t).bind fun a=>(find σ u).map fun b=>.tuple #[a,b]
 |[.tmp t,.tmp u,.tmp v]=>(find σ t).bind fun a=>(find σ u).bind fun b=>(find σ v).map fun c=>.tuple #[a,b,c]
 |[.tmp t,.tmp u,.tmp v,.tmp x]=>(find σ t).bind fun a=>(find σ u).bind fun b=>(find σ v).bind fun c=>(find σ x).map fun d=>.tuple #[a,b,c,d]
 |_=>none
theorem getD_of{a:Act}(h:Fits n σ ds a){t:Nat}{v:Value}(hv:find σ t=some v):a.tmps.getD t undef=v:=by
 have:=h.vals t v hv
 simp[this]
theorem resV_run{fn:Func}{a:Act}{v:Value}(h:Fits n σ ds a)(hv:resV σ fn.results=some v):(results fn a.tmps).run P w=.ok v w:=by
 obtain⟨l,hl⟩:∃l,fn.results=l:=⟨_,rfl⟩
 rw[hl]at hv
 obtain⟨l⟩:= l
 unfold resV at hv
 simp only at hv
 split at hv
 · simp only[Option.some.injEq]at hv; subst hv
   exact results_none hl _ _ _
 · rename_i t
   rw[results_tmp hl, getD_of h hv]
 · rename_i t u
   simp only[Option.bind_eq_some_iff, Option.map_eq_some_iff]at hv
   obtain⟨x, hx, y,hy,rfl⟩:=hv
   rw[results_tmp2 hl,getD_of h hx, getD_of h hy]
 · rename_i t u x
   simp only[Option.bind_eq_some_iff, Option.map_eq_some_iff]at hv
   obtain⟨e, b,f,c,g,d,rfl⟩:=hv
   simp[results,hl,h.vals _ _ b,h.vals _ _ c, h.vals _ _ d]
 · rename_i t u x y
   simp only[Option.bind_eq_some_iff, Option.map_eq_some_iff]at hv
   obtain⟨e, b,f,c,g,d,_,i,rfl⟩:=hv
   simp[results,hl,h.vals _ _ b,h.vals _ _ c,h.vals _ _ d,h.vals _ _ i]
 ·cases hv
theorem leaves{fn:Func}{b:Frame}{a:Act}{todo:List Item}{v:Value}(hf:P.funcs[f]?=some fn)(hb:b.fn=f)(hk:b.kind=.normal)(hd:a.defers=[])
 (hr:(results fn a.tmps).run P w=.ok v w):({b.at a todo with mode:=.returning}:Frame).leaving P w (.returned v):=by
 refine⟨rfl,hd,hk,fn,?_,hr⟩
 simp only[Frame.at];rw[hb];exact hf
theorem WK.retBy{fn:Func}{c:Code}{k:List Item}{v:Value}(hf:P.funcs[f]?=some fn)(hc:c=.ret)(hr:∀a,Fits n σ [] a→(results fn a.tmps).run P w=.ok v w)(h:R (.returned v) w):
 WK P f n (.code c::k) σ [] w R:=by
 subst hc
 intro b a cs d g e
 exact⟨.returned v,w,_,h,(.one step_ret:Steps P _ _),d,leaves hf d g e.defers (hr a e)⟩
theorem WK.endBy{fn:Func}{v:Value}(hf:P.funcs[f]?=some fn)(hr:∀a,Fits n σ [] a→(results fn a.tmps).run P w=.ok v w)(h:R (.returned v) w):
 WK P f n [] σ [] w R:=by
 intro b a cs c e d
 exact⟨.returned v,w,_,h,(.one step_end:Steps P _ _),c,leaves hf c e d.defers (hr a d)⟩
theorem WK.ret{fn:Func}{c:Code}{k:List Item}{v:Value}(hf:P.funcs[f]?=some fn)(hc:c=.ret)(hr:resV σ fn.results=some v)(h:R (.returned v) w):
 WK P f n (.code c::k) σ [] w R:=WK.retBy hf hc (fun _ ha=>resV_run ha hr) h
theorem WK.fin{fn:Func}{v:Value}(hf:P.funcs[f]?=some fn)(hr:resV σ fn.results=some v)(h:R (.returned v) w):
 WK P f n [] σ [] w R:=WK.endBy hf (fun _ ha=>resV_run ha hr) h
def sub:Code→List Nat→Code
 |c,[]=>c
 |.seq a _,0::p=>sub a p
 |.seq _ b,1::p=>sub b p
 |.seq _ b,(k+2)::p=>sub b ((k+1)::p)
 |.cond _ a _,0::p=>sub a p
 |.cond _ _ b,1::p=>sub b p
 |.block _ b,0::p=>sub b p
 |.loop b,0::p=>sub b p
 |.scope b,0::p=>sub b p
 |_,_=>.skip
def cd(P:Program)(f:Nat)(p:List Nat):Code:=match P.funcs[f]? with
 |some fn=>match fn.body with
  |some c=>sub c p
  |none=>.skip
 |none=>.skip
def opsOf:Code→Array Oper
 |.region _ ops _=>ops
 |_=>#[]
def idOf:Code→Nat
 |.region id _ _=>id
 |_=>0
def sq(a b:Nat):List (Nat×Kd):=(List.range' a (b-a)).map (·,Kd.seq)
theorem WK.reg1{c:Code}{k:List Item}{l:List (Nat×Kd)}(hc:c=.region (idOf c) (opsOf c) false)(hl:l.map (·.1)=List.range (opsOf c).size)
 (h:RW P (opsOf c) n ds (fun σ' w'=>WK P f n k σ' ds w' R) l σ w):WK P f n (.code c::k) σ ds w R:=WK.reg hc hl h
theorem WK.draw1{c:Code}{k:List Item}(nt:Nat)(l l':List (Nat×Kd))(hm:P.follows .mixedOrders=true)(hc:c=.region (idOf c) (opsOf c) true)(hB:drawB (opsOf c) nt l=true)
 (hl:l++tailOf nt (opsOf c).size=l')(h:RW P (opsOf c) n ds (fun σ' w'=>WK P f n k σ' ds w' R) l' σ {w with drawn:=w.drawn+1}):WK P f n (.code c::k) σ ds w R:=
 WK.draw nt l l' hm hc hB hl h
theorem WK.cond{c x y:Code}{o:Operand}{k:List Item}{b:Bool}(hc:c=.cond o x y)(hb:ev σ o=some (.bool b))(ht:b=true→WK P f n (.code x::k) σ ds w R)(hf:b=false→WK P f n (.code y::k) σ ds w R):
 WK P f n (.code c::k) σ ds w R:=by
 subst hc
 cases b
 ·exact WK.steps (fun _ a cs _ _ h=>⟨a,h,.one (by rw[step_cond (eval_rho h hb),if_neg (by simp)])⟩) (hf rfl)
 ·exact WK.steps (fun _ a cs _ _ h=>⟨a,h,.one (by rw[step_cond (eval_rho h hb),if_pos rfl])⟩) (ht rfl)
def condOf:Code→Operand
 |.cond c _ _=>c
 |_=>.const undef
theorem WK.cond1{g:Nat}{p:List Nat}{k:List Item}(b:Bool)(hc:cd P g p=.cond (condOf (cd P g p)) (cd P g (p++[0])) (cd P g (p++[1])))(hb:ev σ (condOf (cd P g p))=some (.bool b))
 (ht:b=true→WK P f n (.code (cd P g (p++[0]))::k) σ ds w R)(hf:b=false→WK P f n (.code (cd P g (p++[1]))::k) σ ds w R):
 WK P f n (.code (cd P g p)::k) σ ds w R:=WK.cond hc hb ht hf
theorem WK.calls1{fn:Func}{args:Array Value}(hf:P.funcs[f]?=some fn)(hn:fn.ntmps=n)(hb:fn.body=some (cd P f []))(ha:Nat.ble args.toList.length n=true)
 (hσ:σ=((List.range args.toList.length).zip args.toList))(h:WK P f n [.code (cd P f [])] σ [] w R):Calls P f args w R:=by
 subst hn
 have hle:=Nat.le_of_ble_eq_true ha
 refine WK.calls hf hb (by simpa using hle) (fun t v hv=>?_) h
 subst hσ
 have key:∀(l:List Value)(s t:Nat)(v:Value),find ((List.range' s l.length).zip l) t=some v→∃j,t=s+j∧l[j]?=some v:=by
  intro l
  induction l with
  |nil=>intro s t v h;simp[find]at h
  |cons x l ih=>
   intro s t v h
   simp only[List.length_cons,List.range'_succ,List.zip_cons_cons,find_cons]at h
   split at h
   · rename_i e; exact⟨0, by omega, by simpa using h⟩
   · obtain⟨j,hj,hl⟩:=ih (s+1) t v h
     exact⟨j+1,by omega,by simpa using hl⟩
 rw[List.range_eq_range']at hv
 obtain⟨j,hj,hl⟩:=key args.toList 0 t v hv
 have:t=j:=by omega
 subst this
 simpa using hl
end
end Go.BX

/-
 THE ENGINE: regions in which more than one operation that makes memory may come next.
 No condition.
-/
namespace Go.BX
mutual
inductive DTree where
 |leaf(l:List (Nat×Kd))
 |node(l:List (Nat×Kd))(bs:DList)
inductive DList where
 |nil
 |cons(i:Nat)(t:DTree)(r:DList)
end
def DList.ids:DList→List Nat
 |.nil=>[]
 |.cons i _ r=>i::r.ids
section
variable{P:Program}{ops:Array Oper}{n:Nat}{ds:List Deferred}
mutual
def RT(P:Program)(ops:Array Oper)(n:Nat)(ds:List Deferred)(K:Env→World→Prop)(tl pre:List (Nat×Kd)):DTree→Env→World→Prop
 |.leaf l,σ,w=>RW P ops n ds K (pre++(l++tl)) σ w
 |.node l bs,σ,w=>RW P ops n ds (fun σ' w'=>RB P ops n ds K tl bs σ' w') (pre++l) σ w
def RB(P:Program)(ops:Array Oper)(n:Nat)(ds:List Deferred)(K:Env→World→Prop)(tl:List (Nat×Kd)):DList→Env→World→Prop
 |.nil,_,_=>True
 |.cons i t r,σ,w=>RT P ops n ds K tl [(i,.chn)] t σ w∧RB P ops n ds K tl r σ w
end
mutual
def canT(ops:Array Oper)(nt:Nat)(fin:Array Bool):DTree→Nat→Array Bool→Bool
 |.leaf l,f,s=>decide (l.length=f)&&match canHead ops nt l s with
  |some s'=>decide (s'=fin)
  |none=>false
 |.node l bs,f,s=>decide (l.length+1≤f)&&match canHead ops nt l s with
  |some s'=>decide (Region.ready .any ops s'=bs.ids)&&!bs.ids.isEmpty&&canL ops nt fin bs (f-l.length-1) s'
  |none=>false
def canL(ops:Array Oper)(nt:Nat)(fin:Array Bool):DList→Nat→Array Bool→Bool
 |.nil,_,_=>true
 |.cons i t r,f,s=>decide (i<nt)&&canT ops nt fin t f (s.setIfInBounds i true)&&canL ops nt fin r f s
end
theorem wpHd_pre{nt f':Nat}{K:Env→World→Prop}{L:Array Bool→Act→World→Prop}(hsel:Region.noSelect ops=true)
 (hjn:∀listed i,HeadInv .any ops nt listed→i<nt→listed.getD i true=false→∀j∈Region.ready .any ops listed,j<nt)
 (hdone:∀listed a w,L listed a w→∀j∈Region.ready .any ops listed,nt≤j){s':Array Bool}
 (hk:∀a w σ,HeadInv .any ops nt s'→Fits n σ ds a→K σ w→wpHd P ops nt L f' s' a w):
 ∀(l:List (Nat×Kd))(listed:Array Bool)(a:Act)(w:World)(σ:Env),HeadInv .any ops nt listed→canHead ops nt l listed=some s'→Fits n σ ds a→RW P ops n ds K l σ w→
 wpHd P ops nt L (l.length+f') listed a w
 |[],listed,a,w,σ,inv,hB,hf,h=>by
  simp only[canHead,Option.some.injEq]at hB
  subst hB
  simp only[List.length_nil,Nat.zero_add]
  exact hk a w σ inv hf h
 |(i,κ)::r,listed,a,w,σ,inv,hB,hf,⟨o,ho,h⟩=>by
  have h1:=h a hf
  rw[List.length_cons,show r.length+1+f'=r.length+f'+1 by omega]
  cases κ with
  |seq=>simp[canHead]at hB
  |qui=>
   simp only[canHead]at hB
   split at hB
   · rename_i hc
     simp only[Bool.and_eq_true, decide_eq_true_eq]at hc
     obtain⟨v, hs, σ', hf', hk'⟩:= h1
     have hr' : i ∈ Region.ready .any ops listed := by simpa using hc.1.1
     exact wpHd_first ho (Region.noSelect_spec hsel) hc.2 (fun lst hinv hun => hjn lst i hinv hc.2 hun) hdone (r.length + f') listed a w inv (Region.free_spec ho hc.1.2) hr' hs
      (wpHd_pre hsel hjn hdone hk r _ _ w σ' (inv.set hr' hc.2) hB hf' hk')
   · cases hB
  | chn =>
   simp only[canHead]at hB
   split at hB
   · rename_i hc
     simp only[Bool.and_eq_true, decide_eq_true_eq]at hc
     refine⟨by rw[hc.1]; simp,fun j hj=>?_⟩
     have hr':i∈Region.ready .any ops listed:=by rw[hc.1];simp
     rw[hc.1]at hj
     obtain rfl:j=i:=by simpa using hj
     exact⟨hc.2,o,ho,OW.mono (fun a' w'⟨he,σ',hf',hk'⟩=>⟨he,wpHd_pre hsel hjn hdone hk r _ a' w' σ' (inv.set hr' hc.2) hB hf' hk'⟩) h1⟩
   ·cases hB
theorem RT.first{K:Env→World→Prop}{tl:List (Nat×Kd)}{i:Nat}{t:DTree}{σ:Env}{w:World}(h:RT P ops n ds K tl [(i,.chn)] t σ w):
 ∃o,ops[i]?=some o∧OpK P ops n ds o .chn σ w (fun σ' w'=>RT P ops n ds K tl [] t σ' w'):=by
 cases t with
 |leaf l=>
  unfold RT at h
  obtain⟨o,ho,h⟩:=h
  refine⟨o,ho,OpK.mono (fun σ w h=>?_) h⟩
  unfold RT
  exact h
 |node l bs=>
  unfold RT at h
  obtain⟨o,ho,h⟩:=h
  refine⟨o,ho,OpK.mono (fun σ w h=>?_) h⟩
  unfold RT
  exact h
mutual
theorem wpHd_of_RT{nt g:Nat}{K:Env→World→Prop}{fin:Array Bool}(hsel:Region.noSelect ops=true)
 (hjn:∀listed i,HeadInv .any ops nt listed→i<nt→listed.getD i true=false→∀j∈Region.ready .any ops listed,j<nt)(hseq:Region.seqB .any ops g nt fin=true){tl:List (Nat×Kd)}:
 ∀(t:DTree)(f:Nat)(s:Array Bool)(a:Act)(w:World)(σ:Env),HeadInv .any ops nt s→canT ops nt fin t f s=true→Fits n σ ds a→RT P ops n ds K tl [] t σ w→
 wpHd P ops nt (fun lst a' w'=>lst=fin∧∃σ',Fits n σ' ds a'∧RW P ops n ds K tl σ' w') f s a w
 |.leaf l,f,s,a,w,σ,inv,hc,hf,h=>by
  unfold canT at hc
  simp only[Bool.and_eq_true,decide_eq_true_eq]at hc
  obtain⟨hl,hc⟩:=hc
  cases hh:canHead ops nt l s with
  |none=>rw[hh]at hc;cases hc
  |some s'=>
   rw[hh]at hc
   simp only[decide_eq_true_eq]at hc
   subst hc
   subst hl
   unfold RT at h
   rw[List.nil_append]at h
   exact wpHd_pre (K:=RW P ops n ds K tl) (L:=fun lst a' w'=>lst=s'∧∃σ',Fits n σ' ds a'∧RW P ops n ds K tl σ' w') (f':=0) hsel hjn (fun lst a' w' hL=>by rw[hL.1];exact seqB_ready hseq)
    (fun a w σ _ hf hk=>show _∧_ from⟨rfl,σ,hf,hk⟩) l s a w σ inv hh hf (RW.append l tl σ w h)
 |.node l bs,f,s,a,w,σ,inv,hc,hf,h=>by
  unfold canT at hc
  simp only[Bool.and_eq_true,decide_eq_true_eq]at hc
  obtain⟨hl,hc⟩:=hc
  cases hh:canHead ops nt l s with
  |none=>rw[hh]at hc;cases hc
  |some s'=>
   rw[hh]at hc
   simp only[Bool.and_eq_true,decide_eq_true_eq]at hc
   obtain⟨⟨hr,hne⟩,hL⟩:=hc
   unfold RT at h
   rw[List.nil_append]at h
   rw[show f=l.length+(f-l.length-1+1)by omega]
   refine wpHd_pre hsel hjn (fun lst a' w' hL=>by rw[hL.1];exact seqB_ready hseq) (fun a w σ inv' hf hk=>?_) l s a w σ inv hh hf h
   refine⟨fun h0 =>?_, fun i hi =>?_⟩
   · rw[hr]at h0
     rw[h0]at hne
     cases hne
   · have hi' := hi
     rw[hr]at hi'
     exact wpHd_of_RB hsel hjn hseq bs (f - l.length - 1) s' a w σ inv' hL hf hk i hi' hi
theorem wpHd_of_RB{nt g:Nat}{K:Env→World→Prop}{fin:Array Bool}(hsel:Region.noSelect ops=true)
 (hjn:∀listed i,HeadInv .any ops nt listed→i<nt→listed.getD i true=false→∀j∈Region.ready .any ops listed,j<nt)(hseq:Region.seqB .any ops g nt fin=true){tl:List (Nat×Kd)}:
 ∀(bs:DList)(f:Nat)(s:Array Bool)(a:Act)(w:World)(σ:Env),HeadInv .any ops nt s→canL ops nt fin bs f s=true→Fits n σ ds a→RB P ops n ds K tl bs σ w→∀i∈bs.ids,i∈Region.ready .any ops s→
 i<nt∧OpE P ops i (fun a' w'=>Ext w w'∧wpHd P ops nt (fun lst a' w'=>lst=fin∧∃σ',Fits n σ' ds a'∧RW P ops n ds K tl σ' w') f (s.setIfInBounds i true) a' w') a w
 |.nil,_,_,_,_,_,_,_,_,_,i,hi,_=>by cases hi
 |.cons j t r,f,s,a,w,σ,inv,hc,hf,h,i,hi,hrd=>by
  unfold canL at hc
  simp only[Bool.and_eq_true,decide_eq_true_eq]at hc
  obtain⟨⟨hj,ht⟩,hr⟩:=hc
  unfold RB at h
  unfold DList.ids at hi
  by_cases hij:i= j
  · subst hij
    obtain⟨o, ho, h1⟩:= h.1.first
    have h2 := h1 a hf
    exact⟨hj, o, ho,OW.mono (fun a' w'⟨he,σ',hf',hk'⟩=>⟨he,wpHd_of_RT hsel hjn hseq t f _ a' w' σ' (inv.set hrd hj) ht hf' hk'⟩) h2⟩
  ·exact wpHd_of_RB hsel hjn hseq r f s a w σ inv hr hf h.2 i (by
     rcases List.mem_cons.1 hi with h|h
     ·exact absurd h hij
     ·exact h) hrd
end
def drawT(ops:Array Oper)(nt:Nat)(fin:List Bool)(t:DTree):Bool:=
 Region.noSelect ops&&decide (nt≤ops.size)&&(decide (nt=ops.size)||(Region.sinkB .any ops nt&&Region.chainB .any ops nt))&&
 canT ops nt fin.toArray t nt (Array.replicate ops.size false)&&Region.seqB .any ops (ops.size-nt) nt fin.toArray
theorem RT.draw{K:Env→World→Prop}{Q:Exit→Act→World→Prop}(hQ:∀a w σ,Fits n σ ds a→K σ w→Q .normal a w)
 {id:Nat}(hm:P.follows .mixedOrders=true)(nt:Nat)(fin:List Bool)(t:DTree)(hB:drawT ops nt fin t=true){σ:Env}{a:Act}{w:World}(hf:Fits n σ ds a)
 (h:RT P ops n ds K (tailOf nt ops.size) [] t σ {w with drawn:=w.drawn+1}):(Code.region id ops true).wp P Q a w:=by
 simp only[drawT,Bool.and_eq_true,decide_eq_true_eq,Bool.or_eq_true]at hB
 obtain⟨⟨⟨⟨hsel,hnt⟩,htail⟩,hcan⟩,hseq⟩:=hB
 have inv:HeadInv .any ops nt (Array.replicate ops.size false):=⟨by simp,fun j oj _ hl=>(by rw[getD_replicate_false]at hl;cases hl),fun t _ ht=>(by simp[ht])⟩
 have hjn:∀listed i,HeadInv .any ops nt listed→i<nt→listed.getD i true=false→∀j∈Region.ready .any ops listed,j<nt:=by
  intro listed i hinv hi hun j hj
  rcases htail with b|⟨hs, hch⟩
  · rw[b]; exact ready_lt hj
  · rcases Nat.lt_or_ge j nt with h' | h'
    · exact h'
    · have hjl := ready_lt hj
      exact absurd hj (tail_waits hs hch (by omega) hinv _ i rfl hi hun j h')
 have hd:=wpHd_of_RT (K:=K) hsel hjn hseq t nt _ a {w with drawn:=w.drawn+1} σ inv hcan hf h
 refine wp_region_any hm ?_
 have hsz:ops.size=nt+(ops.size-nt):=by omega
 rw[hsz]
 have hda:(Array.replicate (nt+(ops.size-nt)) false)=Array.replicate ops.size false:=by rw[←hsz]
 rw[hda]
 refine wpAny_of_hd (fun listed a' w' hL=>?_) _ _ _ _ hd
 obtain⟨rfl,σ',hf',hk⟩:=hL
 have hlt:(ops.toList.drop nt).length=ops.size-nt:=by simp
 rw[←hlt]at hseq⊢
 refine wpAny_of_seq (ops.toList.drop nt) nt fin.toArray a' w' (fun j=>by simp) hseq ?_
 exact RW.wpList hQ (ops.toList.drop nt) nt σ' w' a' (fun j _=>by simp) hf' (by rw[hlt];exact hk)
end
section
variable{P:Program}{f:FuncId}{n:Nat}{σ:Env}{ds:List Deferred}{w:World}{R:Ending→World→Prop}
theorem RT.leaf'{ops:Array Oper}{K:Env→World→Prop}{tl pre l:List (Nat×Kd)}(l':List (Nat×Kd))(hl:pre++(l++tl)=l')(h:RW P ops n ds K l' σ w):RT P ops n ds K tl pre (.leaf l) σ w:=by
 subst hl
 unfold RT
 exact h
theorem RT.node'{ops:Array Oper}{K:Env→World→Prop}{tl pre l:List (Nat×Kd)}{bs:DList}(l':List (Nat×Kd))(hl:pre++l=l')(h:RW P ops n ds (fun σ' w'=>RB P ops n ds K tl bs σ' w') l' σ w):RT P ops n ds K tl pre (.node l bs) σ w:=by
 subst hl
 unfold RT
 exact h
theorem RB.nil'{ops:Array Oper}{K:Env→World→Prop}{tl:List (Nat×Kd)}:RB P ops n ds K tl .nil σ w:=by
 unfold RB
 trivial
theorem RB.cons'{ops:Array Oper}{K:Env→World→Prop}{tl:List (Nat×Kd)}{i:Nat}{t:DTree}{r:DList}(h:RT P ops n ds K tl [(i,.chn)] t σ w)(k:RB P ops n ds K tl r σ w):RB P ops n ds K tl (.cons i t r) σ w:=by
 unfold RB
 exact⟨h,k⟩
theorem RT.sub{ops:Array Oper}{K:Env→World→Prop}{tl pre:List (Nat×Kd)}{t:DTree}{σ':Env}(hp:pre≠[])(hs:∀t v,find σ' t=some v→find σ t=some v)(h:RT P ops n ds K tl pre t σ' w):RT P ops n ds K tl pre t σ w:=by
 cases t with
 |leaf l=>
  unfold RT at h⊢
  exact RW.sub (by simp[hp]) hs h
 |node l bs=>
  unfold RT at h⊢
  exact RW.sub (by simp[hp]) hs h
theorem RB.sub{ops:Array Oper}{K:Env→World→Prop}{tl:List (Nat×Kd)}{σ':Env}(hs:∀t v,find σ' t=some v→find σ t=some v):∀{bs:DList},RB P ops n ds K tl bs σ' w→RB P ops n ds K tl bs σ w
 |.nil,_=>RB.nil'
 |.cons i t r,h=>by
  unfold RB at h⊢
  exact⟨RT.sub (by simp) hs h.1,RB.sub hs h.2⟩
theorem RT.fin{ops:Array Oper}{K:Env→World→Prop}{tl l:List (Nat×Kd)}{bs:DList}(m:Nat)(live:List Nat)(σ':Env)(h:(rrun P n ops m l σ).map (fun x=>(x.1,pick live x.2))=some ([],σ'))(hk:RB P ops n ds K tl bs σ' w):
 RW P ops n ds (fun σ' w'=>RB P ops n ds K tl bs σ' w') l σ w:=by
 cases hr:rrun P n ops m l σ with
 |none=>rw[hr]at h;cases h
 |some x=>
  obtain⟨_,σ1⟩:=x
  rw[hr]at h
  simp only[Option.map_some,Option.some.injEq,Prod.mk.injEq]at h
  obtain⟨rfl,rfl⟩:=h
  exact rrun_spec m l [] σ σ1 hr (RB.sub (pick_find σ1 live) hk)
end
end Go.BX

/-
 THE ENGINE: regions that draw their order: pure operations first, of those that nothing in the tail waits for.
 No condition.
-/
namespace Go.BX
section
variable{P:Program}{ops:Array Oper}
theorem wpHd_firstI{nt i:Nat}{oi:Oper}{v:Value}{L:Array Bool→Act→World→Prop}(I:Array Bool→Prop)(hI:∀listed j,I listed→j∈Region.ready .any ops listed→j<nt→I (listed.setIfInBounds j true))
 (hi:ops[i]?=some oi)(hsel:∀(j:Nat)(o:Oper)cs b,ops[j]?=some o→o.op≠.select cs b)
 (hin:i<nt)(hjn:∀listed,I listed→listed.getD i true=false→∀j∈Region.ready .any ops listed,j<nt)
 (hdone:∀listed a w,L listed a w→∀j∈Region.ready .any ops listed,nt≤j):
 ∀(f:Nat)(listed:Array Bool)(a:Act)(w:World),I listed→
  (∀j oj,ops[j]?=some oj→j≠i→listed.getD j true=false→(∀e∈oj.after,Region.binds .any e=true→e.on≠i)→oi.apart ops oj=true)→
  i∈Region.ready .any ops listed→Stable P ops oi v a w→
  wpHd P ops nt L f (listed.setIfInBounds i true) (a.put oi.dst v) w→wpHd P ops nt L (f+1) listed a w:=by
 intro f
 induction f with
 |zero=>
  intro listed a w inv _ hr hy H
  have hun:=(mem_ready.1 hr).1
  refine⟨fun h=>(by rw[h]at hr;cases hr),fun j hj=>⟨hjn listed inv hun j hj,?_⟩⟩
  by_cases hji:j=i
  ·subst hji; exact⟨oi, hi, hy.ow ⟨Ext.refl w, H⟩⟩
  · have := hdone _ _ _ H j (ready_mono hj hji)
    have := hjn listed inv hun j hj
    omega
 | succ f ih =>
  intro listed a w inv hfree hr hy H
  have hun := (mem_ready.1 hr).1
  refine⟨fun h => (by rw[h]at hr; cases hr), fun j hj =>⟨hjn listed inv hun j hj, ?_⟩⟩
  have hjlt := hjn listed inv hun j hj
  by_cases hji : j = i
  · subst hji; exact⟨oi, hi, hy.ow ⟨Ext.refl w, H⟩⟩
  · obtain⟨_, oj',hoj',c⟩:=H.2 j (ready_mono hj hji)
    obtain⟨hjun,oj,hoj,hall⟩:=mem_ready.1 hj
    have:oj'=oj:=Option.some.inj (hoj'.symm.trans hoj)
    subst this
    have hnot:∀e∈oj'.after,Region.binds .any e=true→e.on≠i:=fun e he hb heq=>by
     have c:=hall e he hb
     rw[heq,getD_both hun]at c
     cases c
    have g:=ow_put (hfree j oj' hoj hji hjun hnot) (fun cs b=>hsel i oi cs b hi) (fun cs b=>hsel j oj' cs b hoj) hy c
    have hfree':∀k ok,ops[k]?=some ok→k≠i→(listed.setIfInBounds j true).getD k true=false→
     (∀e∈ok.after,Region.binds .any e=true→e.on≠i)→oi.apart ops ok=true:=fun k ok hk hki hun hno=>by
     refine hfree k ok hk hki ?_ hno
     by_cases hjk:j=k
     ·subst hjk;exact hjun
     ·rw[getD_set_ne true hjk]at hun;exact hun
    refine⟨oj',hoj,OW.mono (fun a' w' d=>⟨d.1,ih (listed.setIfInBounds j true) a' w' (hI _ _ inv hj hjlt) hfree' (ready_mono hr (Ne.symm hji)) d.2.1 ?_⟩) g⟩
    rw[Array.setIfInBounds_comm _ _ hji]
    exact d.2.2
theorem wpHd_of_RWI{n nt:Nat}{ds:List Deferred}{K:Env→World→Prop}{g:Nat}(I:Array Bool→Prop)(hI:∀listed j,I listed→j∈Region.ready .any ops listed→j<nt→I (listed.setIfInBounds j true))(hsel:Region.noSelect ops=true)
 (hjn:∀listed i,I listed→i<nt→listed.getD i true=false→∀j∈Region.ready .any ops listed,j<nt)(listed':Array Bool)(hseq:Region.seqB .any ops g nt listed'=true):
 ∀(l:List (Nat×Kd))(listed:Array Bool)(a:Act)(w:World)(σ:Env),I listed→canHead ops nt l listed=some listed'→Fits n σ ds a→RW P ops n ds K l σ w→
 wpHd P ops nt (fun lst a' w'=>lst=listed'∧∃σ',Fits n σ' ds a'∧K σ' w') l.length listed a w
 |[],listed,a,w,σ,_,hB,hf,h=>by
  simp only[canHead,Option.some.injEq]at hB
  exact⟨hB,σ,hf,h⟩
 |(i,κ)::r,listed,a,w,σ,inv,hB,hf,⟨o,ho, h⟩=> by
  have h1 := h a hf
  cases κ with
  | seq => simp[canHead]at hB
  | qui =>
   simp only[canHead]at hB
   split at hB
   · rename_i hc
     simp only[Bool.and_eq_true, decide_eq_true_eq]at hc
     obtain⟨v,hs,σ',hf',hk⟩:=h1
     have hr':i∈Region.ready .any ops listed:=by simpa using hc.1.1
     exact wpHd_firstI I hI ho (Region.noSelect_spec hsel) hc.2 (fun lst hinv hun => hjn lst i hinv hc.2 hun)
      (fun lst a' w' hL => by rw[hL.1]; exact seqB_ready hseq) r.length listed a w inv (Region.free_spec ho hc.1.2) hr' hs
      (wpHd_of_RWI I hI hsel hjn listed' hseq r _ _ w σ' (hI _ _ inv hr' hc.2) hB hf' hk)
   · cases hB
  | chn =>
   simp only[canHead]at hB
   split at hB
   · rename_i hc
     simp only[Bool.and_eq_true, decide_eq_true_eq]at hc
     refine⟨by rw[hc.1]; simp,fun j hj=>?_⟩
     have hr':i∈Region.ready .any ops listed:=by rw[hc.1];simp
     rw[hc.1]at hj
     obtain rfl:j=i:=by simpa using hj
     exact⟨hc.2,o,ho,OW.mono (fun a' w'⟨he,σ',hf',hk⟩=>⟨he,wpHd_of_RWI I hI hsel hjn listed' hseq r _ a' w' σ' (hI _ _ inv hr' hc.2) hB hf' hk⟩) h1⟩
   ·cases hB
def sinkP(ops:Array Oper)(nt:Nat)(L0:Array Bool):Bool:=
 (List.range nt).all fun i=>L0.getD i false||(List.range (nt+1)).any fun j=>decide (i<j)&&Region.waitsFor .any ops j i
theorem tail_waitsP{nt:Nat}{L0 listed:Array Bool}(hs:sinkP ops nt L0=true)(hc:Region.chainB .any ops nt=true)(hn:nt<ops.size)(inv:HeadInv .any ops nt listed)(hsub:∀i,L0.getD i false=true→listed.getD i false=true):
 ∀(d i:Nat),nt-i=d→i<nt→listed.getD i true=false→∀t,nt≤t→t∉Region.ready .any ops listed:=by
 intro d
 induction d using Nat.strongRecOn with
 |_ d ih=>
  intro i hd hi hun t ht hr
  obtain⟨_,ot,hot,hall⟩:=mem_ready.1 hr
  have htlt:t<ops.size:=(Array.getElem?_eq_some_iff.1 hot).1
  by_cases htn : t = nt
  · subst htn
    have a := List.all_eq_true.1 hs i (List.mem_range.2 hi)
    rcases Bool.or_eq_true_iff.1 a with a | a
    · have:=hsub i a
      rw[getD_both hun]at this
      cases this
    obtain⟨j,hj,c⟩:=List.any_eq_true.1 a
    simp only[Bool.and_eq_true,decide_eq_true_eq]at c
    obtain⟨oj,hoj,e,he,hb,hon⟩:=Region.waitsFor_spec c.2
    have hjle:j≤t:=by have:= List.mem_range.1 hj; omega
    by_cases hjt : j = t
    · subst hjt
      have : oj =ot:=Option.some.inj (hoj.symm.trans hot)
      subst this
      have b:=hall e he hb
      rw[hon,getD_both hun]at b
      cases b
    ·cases hl:listed.getD j false with
      |true=>
       have b:=inv.closed j oj hoj hl e he hb
       rw[hon,getD_both hun]at b
       cases b
      |false=>
       have hjs:j<listed.size := by rw[inv.size]; omega
       exact ih (t - j) (by omega) j rfl (by omega) (getD_in hjs hl) t (Nat.le_refl _) hr
  · have a := List.all_eq_true.1 hc t (List.mem_range.2 htlt)
    simp only[Bool.or_eq_true, decide_eq_true_eq]at a
    rcases a with a | a
    · omega
    · obtain⟨o', ho', e, he, hb, hon⟩:= Region.waitsFor_spec a
      have :o'=ot:=Option.some.inj (ho'.symm.trans hot)
      subst this
      have b:=hall e he hb
      rw[hon,getD_both (inv.tail (t-1) (by omega) (by omega))]at b
      cases b
def canPre(ops:Array Oper)(nt:Nat):List Nat→Array Bool→Option (Array Bool)
 |[],L=>some L
 |i::r,L=>cond ((Region.ready .any ops L).contains i&&Region.free .any ops L i&&decide (i<nt)) (canPre ops nt r (L.setIfInBounds i true)) none
def drawPB(ops:Array Oper)(nt:Nat)(pre:List Nat)(l:List (Nat×Kd)):Bool:=
 Region.noSelect ops&&decide (nt≤ops.size)&&decide (pre.length+l.length=nt)&&
 match canPre ops nt pre (Array.replicate ops.size false)with
 |some L0=>(decide (nt=ops.size)||(sinkP ops nt L0&&Region.chainB .any ops nt))&&
  match canHead ops nt l L0 with
  |some listed=>Region.seqB .any ops (ops.size-nt) nt listed
  |none=>false
 |none=>false
theorem wpAny_pre{n nt:Nat}{ds:List Deferred}{Q:Exit→Act→World→Prop}(hP:∀c a w,¬Q (.panic c) a w)(hs:Region.noSelect ops=true){fuel:Nat}{L0:Array Bool}{σ1:Env}{w:World}:
 ∀(pre:List Nat)(L:Array Bool)(σ:Env)(a:Act),canPre ops nt pre L=some L0→HeadInv .any ops nt L→rrun P n ops pre.length (pre.map (·,Kd.qui)) σ=some ([],σ1)→Fits n σ ds a→
 (HeadInv .any ops nt L0→∀a',Fits n σ1 ds a'→wpAny P .any ops Q fuel L0 a' w)→wpAny P .any ops Q (pre.length+fuel) L a w
 |[],L,σ,a,hc,inv,hr,hf,h=>by
  simp only[canPre,Option.some.injEq]at hc
  simp only[List.length_nil,List.map_nil,rrun,Option.some.injEq,Prod.mk.injEq,true_and]at hr
  subst hc
  subst hr
  rw[List.length_nil,Nat.zero_add]
  exact h inv a hf
 |i::r,L,σ,a,hc,inv,hr,hf,h=>by
  simp only[canPre]at hc
  cases hb:((Region.ready .any ops L).contains i&&Region.free .any ops L i&&decide (i<nt))with
  |false=>rw[hb]at hc;cases hc
  |true=>
   rw[hb]at hc
   simp only[cond_true]at hc
   simp only[Bool.and_eq_true,decide_eq_true_eq]at hb
   simp only[List.length_cons,List.map_cons,rrun]at hr
   cases ho:ops[i]? with
   |none=>rw[ho]at hr;cases hr
   |some o=>
    rw[ho]at hr
    simp only at hr
    cases hro:runOp P n ops o σ with
    |none=>rw[hro]at hr;cases hr
    |some σ'=>
     rw[hro]at hr
     obtain⟨v,hst,hf'⟩:=runOp_spec (ds:=ds) hro a hf
     have hy:Yields P ops o v a:=by
      rcases hst w with⟨b,_⟩| b
      · refine .inl ⟨b, fun w' =>?_⟩
        rcases hst w' with⟨_, d⟩|⟨d, _⟩
        · exact d w' (Ext.refl w')
        · rw[b]at d; cases d
      · exact .inr b
     have hr' :i∈Region.ready .any ops L:=by simpa using hb.1.1
     have:=wpAny_take (P:=P) (md:=.any) (Q:=Q) (fuel:=r.length+fuel) (w:=w) ho hs hb.1.2 hb.1.1 (fun c a w hq=>absurd hq (hP c _ w)) hy
      (wpAny_pre hP hs r _ σ' _ hc (inv.set hr' hb.2) hr hf' h)
     rw[List.length_cons,Nat.add_right_comm]
     exact this
theorem RW.drawP{n:Nat}{ds:List Deferred}{K:Env→World→Prop}{Q:Exit→Act→World→Prop}(hQ:∀a w σ,Fits n σ ds a→K σ w→Q .normal a w)(hP:∀c a w,¬Q (.panic c) a w)
 {id:Nat}(hm:P.follows .mixedOrders=true)(nt:Nat)(pre:List Nat)(l:List (Nat×Kd))(hB:drawPB ops nt pre l=true){σ σ1:Env}{a:Act}{w:World}(hf:Fits n σ ds a)
 (hr:rrun P n ops pre.length (pre.map (·,Kd.qui)) σ=some ([],σ1))
 (h:RW P ops n ds K (l++tailOf nt ops.size) σ1 {w with drawn:=w.drawn+1}):(Code.region id ops true).wp P Q a w:=by
 simp only[drawPB,Bool.and_eq_true,decide_eq_true_eq]at hB
 obtain⟨⟨⟨hsel,hnt⟩,hlen⟩,hcan⟩:=hB
 cases hp:canPre ops nt pre (Array.replicate ops.size false)with
 |none=>rw[hp]at hcan;cases hcan
 |some L0=>
  rw[hp]at hcan
  simp only[Bool.and_eq_true,Bool.or_eq_true,decide_eq_true_eq]at hcan
  obtain⟨htail,hcan⟩:=hcan
  cases hc:canHead ops nt l L0 with
  |none=>rw[hc]at hcan;cases hcan
  |some listed'=>
   rw[hc]at hcan
   simp only at hcan
   have inv:HeadInv .any ops nt (Array.replicate ops.size false):=⟨by simp,fun j oj _ hl=>(by rw[getD_replicate_false]at hl;cases hl),fun t _ ht=>(by simp[ht])⟩
   refine wp_region_any hm ?_
   have hsz:ops.size=pre.length+(l.length+(ops.size-nt)):=by omega
   rw[hsz]
   have hda:(Array.replicate (pre.length+(l.length+(ops.size-nt))) false)=Array.replicate ops.size false:=by rw[←hsz]
   rw[hda]
   refine wpAny_pre hP hsel pre _ σ a hp inv hr hf fun b f d=>?_
   let I:Array Bool→Prop:=fun listed=>HeadInv .any ops nt listed∧∀i,L0.getD i false=true→listed.getD i false=true
   have hI:∀listed j,I listed→j∈Region.ready .any ops listed→j<nt→I (listed.setIfInBounds j true):=fun listed j hi hj hjn=>⟨hi.1.set hj hjn,fun i e=>getD_set_true (hi.2 i e)⟩
   have hjn:∀listed i,I listed→i<nt→listed.getD i true=false→∀j∈Region.ready .any ops listed,j< nt := by
    intro listed i hinv hi hun j hj
    rcases htail with g |⟨hs, hch⟩
    · rw[g]; exact ready_lt hj
    · rcases Nat.lt_or_ge j nt with h' | h'
      · exact h'
      · have hjl := ready_lt hj
        exact absurd hj (tail_waitsP hs hch (by omega) hinv.1 hinv.2 _ i rfl hi hun j h')
   have hd :=wpHd_of_RWI (K:=RW P ops n ds K (tailOf nt ops.size)) I hI hsel hjn listed' hcan l _ f {w with drawn:=w.drawn+1} σ1 ⟨b,fun _ h=>h⟩ hc d (RW.append l _ σ1 _ h)
   refine wpAny_of_hd (fun listed a' w' hL=>?_) _ _ _ _ hd
   obtain⟨rfl,σ',hf',hk⟩:=hL
   have hlt:(ops.toList.drop nt).length=ops.size-nt:=by simp
   rw[←hlt]at hcan⊢
   refine wpAny_of_seq (ops.toList.drop nt) nt listed a' w' (fun j=>by simp) hcan ?_
   exact RW.wpList hQ (ops.toList.drop nt) nt σ' w' a' (fun j _=>by simp) hf' (by rw[hlt];exact hk)
variable{f:FuncId}{n:Nat}{σ:Env}{ds:List Deferred}{w:World}{R:Ending→World→Prop}
theorem WK.drawP1{c:Code}{k:List Item}(nt:Nat)(pre:List Nat)(σ1:Env)(l l':List (Nat×Kd))(hm:P.follows .mixedOrders=true)(hc:c=.region (idOf c) (opsOf c) true)(hB:drawPB (opsOf c) nt pre l=true)
 (hr:rrun P n (opsOf c) pre.length (pre.map (·,Kd.qui)) σ=some ([],σ1))(hl:l++tailOf nt (opsOf c).size=l')
 (h:RW P (opsOf c) n ds (fun σ' w'=>WK P f n k σ' ds w' R) l' σ1 {w with drawn:=w.drawn+1}):WK P f n (.code c::k) σ ds w R:=by
 rw[hc]
 subst hl
 refine WK.code fun a ha=>RW.drawP (fun a w σ hf hk=>⟨σ,hf,hk⟩) (fun c a w h=>h) hm nt pre l hB ha hr h
end
end Go.BX

/-
 THE ENGINE: regions in which reads and writes may come in more than one order: all orders are gone through, the pure operations first.
 No condition.
-/
namespace Go.BX
section
variable{P:Program}{ops:Array Oper}{n:Nat}{ds:List Deferred}
mutual
def RO(P:Program)(ops:Array Oper)(n:Nat)(ds:List Deferred)(K:Env→World→Prop)(pre:List (Nat×Kd)):DTree→Env→World→Prop
 |.leaf l,σ,w=>RW P ops n ds K (pre++l) σ w
 |.node l bs,σ,w=>RW P ops n ds (fun σ' w'=>ROB P ops n ds K bs σ' w') (pre++l) σ w
def ROB(P:Program)(ops:Array Oper)(n:Nat)(ds:List Deferred)(K:Env→World→Prop):DList→Env→World→Prop
 |.nil,_,_=>True
 |.cons i t r,σ,w=>RO P ops n ds K [(i,.seq)] t σ w∧ROB P ops n ds K r σ w
end
def canSeq(ops:Array Oper):List (Nat×Kd)→Array Bool→Option (Array Bool)
 |[],s=>some s
 |(i,_)::r,s=>cond (decide (Region.ready .any ops s=[i])) (canSeq ops r (s.setIfInBounds i true)) none
mutual
def canO(ops:Array Oper):DTree→Nat→Array Bool→Bool
 |.leaf l,f,s=>decide (l.length=f)&&match canSeq ops l s with
  |some s'=>(Region.ready .any ops s').isEmpty
  |none=>false
 |.node l bs,f,s=>decide (l.length+1≤f)&&match canSeq ops l s with
  |some s'=>decide (Region.ready .any ops s'=bs.ids)&&!bs.ids.isEmpty&&canOL ops bs (f-l.length-1) s'
  |none=>false
def canOL(ops:Array Oper):DList→Nat→Array Bool→Bool
 |.nil,_,_=>true
 |.cons i t r,f,s=>canO ops t f (s.setIfInBounds i true)&&canOL ops r f s
end
theorem wpAny_seqs{K:Env→World→Prop}{Q:Exit→Act→World→Prop}{f':Nat}{s':Array Bool}(hk:∀a w σ,Fits n σ ds a→K σ w→wpAny P .any ops Q f' s' a w):
 ∀(l:List (Nat×Kd))(s:Array Bool)(a:Act)(w:World)(σ:Env),canSeq ops l s=some s'→Fits n σ ds a→RW P ops n ds K l σ w→wpAny P .any ops Q (l.length+f') s a w
 |[],s,a,w,σ,hB,hf,h=>by
  simp only[canSeq,Option.some.injEq]at hB
  subst hB
  simp only[List.length_nil,Nat.zero_add]
  exact hk a w σ hf h
 |(i,κ)::r,s,a,w,σ,hB,hf,⟨o,ho,h⟩=>by
  simp only[canSeq]at hB
  cases hd:decide (Region.ready .any ops s=[i])with
  |false=>rw[hd]at hB;cases hB
  |true=>
   rw[hd]at hB
   simp only[cond_true]at hB
   rw[List.length_cons,show r.length+1+f'=r.length+f'+1 by omega]
   refine wpAny_all (of_decide_eq_true hd) (by simp) fun j hj=>?_
   obtain rfl:j=i:=by simpa using hj
   exact OW.wpOp ho (OW.mono (fun a' w'⟨σ',hf',hk'⟩=>wpAny_seqs hk r _ a' w' σ' hB hf' hk') (h.seq a hf))
mutual
theorem wpAny_of_RO{K:Env→World→Prop}{Q:Exit→Act→World→Prop}(hQ:∀a w σ,Fits n σ ds a→K σ w→Q .normal a w):
 ∀(t:DTree)(i:Nat)(f:Nat)(s:Array Bool)(a:Act)(w:World)(σ:Env),canO ops t f (s.setIfInBounds i true)=true→Fits n σ ds a→RO P ops n ds K [(i,.seq)] t σ w→
 wpOp P ops Q i (wpAny P .any ops Q f (s.setIfInBounds i true)) a w
 |.leaf l,i,f,s,a,w,σ,hB,hf,h=>by
  unfold RO at h
  simp only[canO,Bool.and_eq_true,decide_eq_true_eq]at hB
  obtain⟨hl,hB⟩:=hB
  cases hc:canSeq ops l (s.setIfInBounds i true)with
  |none=>rw[hc]at hB;cases hB
  |some s'=>
   rw[hc]at hB
   simp only[List.isEmpty_iff]at hB
   obtain⟨o,ho,h⟩:=h
   refine OW.wpOp ho (OW.mono (fun a' w'⟨σ',hf',hk'⟩=>?_) (h.seq a hf))
   have:=wpAny_seqs (Q:=Q) (f':=0) (s':=s') (fun a w σ hf hk=>⟨hB,hQ a w σ hf hk⟩) l _ a' w' σ' hc hf' hk'
   rw[←hl]
   exact this
 |.node l bs,i,f,s,a,w,σ,hB,hf,h=>by
  unfold RO at h
  simp only[canO,Bool.and_eq_true,decide_eq_true_eq]at hB
  obtain⟨hl,hB⟩:=hB
  cases hc:canSeq ops l (s.setIfInBounds i true)with
  |none=>rw[hc]at hB;cases hB
  |some s'=>
   rw[hc]at hB
   simp only[Bool.and_eq_true,decide_eq_true_eq]at hB
   obtain⟨⟨hr,hne⟩,hB⟩:=hB
   obtain⟨o,ho,h⟩:=h
   refine OW.wpOp ho (OW.mono (fun a' w'⟨σ',hf',hk'⟩=>?_) (h.seq a hf))
   have:=wpAny_seqs (Q:=Q) (f':=f-l.length) (s':=s') (fun a w σ hf hk=>by
    rw[show f-l.length=(f-l.length-1)+1 by omega]
    refine wpAny_all hr (by intro e;rw[e]at hne;simp at hne) fun j hj=>?_
    exact wpAny_of_ROB hQ bs (f-l.length-1) s' a w σ hB hf hk j hj) l _ a' w' σ' hc hf' hk'
   rw[show l.length+(f-l.length)=f by omega]at this
   exact this
theorem wpAny_of_ROB{K:Env→World→Prop}{Q:Exit→Act→World→Prop}(hQ:∀a w σ,Fits n σ ds a→K σ w→Q .normal a w):
 ∀(bs:DList)(f:Nat)(s:Array Bool)(a:Act)(w:World)(σ:Env),canOL ops bs f s=true→Fits n σ ds a→ROB P ops n ds K bs σ w→
 ∀j∈bs.ids,wpOp P ops Q j (wpAny P .any ops Q f (s.setIfInBounds j true)) a w
 |.nil,_,_,_,_,_,_,_,_,j,hj=>by simp[DList.ids]at hj
 |.cons i t r,f,s,a,w,σ,hB,hf,h,j,hj=>by
  unfold ROB at h
  simp only[canOL,Bool.and_eq_true]at hB
  simp only[DList.ids,List.mem_cons]at hj
  rcases hj with rfl|hj
  ·exact wpAny_of_RO hQ t j f s a w σ hB.1 hf h.1
  ·exact wpAny_of_ROB hQ r f s a w σ hB.2 hf h.2 j hj
end
theorem wpAny_of_RO0{K:Env→World→Prop}{Q:Exit→Act→World→Prop}(hQ:∀a w σ,Fits n σ ds a→K σ w→Q .normal a w):
 ∀(t:DTree)(f:Nat)(s:Array Bool)(a:Act)(w:World)(σ:Env),canO ops t f s=true→Fits n σ ds a→RO P ops n ds K [] t σ w→wpAny P .any ops Q f s a w
 |.leaf l,f,s,a,w,σ,hB,hf,h=>by
  unfold RO at h
  simp only[canO,Bool.and_eq_true,decide_eq_true_eq]at hB
  obtain⟨hl,hB⟩:=hB
  cases hc:canSeq ops l s with
  |none=>rw[hc]at hB;cases hB
  |some s'=>
   rw[hc]at hB
   simp only[List.isEmpty_iff]at hB
   have:=wpAny_seqs (Q:=Q) (f':=0) (s':=s') (fun a w σ hf hk=>⟨hB,hQ a w σ hf hk⟩) l _ a w σ hc hf h
   rw[←hl]
   exact this
 |.node l bs,f,s,a,w,σ,hB,hf,h=>by
  unfold RO at h
  simp only[canO,Bool.and_eq_true,decide_eq_true_eq]at hB
  obtain⟨hl,hB⟩:=hB
  cases hc:canSeq ops l s with
  |none=>rw[hc]at hB;cases hB
  |some s'=>
   rw[hc]at hB
   simp only[Bool.and_eq_true,decide_eq_true_eq]at hB
   obtain⟨⟨hr,hne⟩,hB⟩:=hB
   have:=wpAny_seqs (Q:=Q) (f':=f-l.length) (s':=s') (fun a w σ hf hk=>by
    rw[show f-l.length=(f-l.length-1)+1 by omega]
    refine wpAny_all hr (by intro e;rw[e]at hne;simp at hne) fun j hj=>?_
    exact wpAny_of_ROB hQ bs (f-l.length-1) s' a w σ hB hf hk j hj) l _ a w σ hc hf h
   rw[show l.length+(f-l.length)=f by omega]at this
   exact this
def drawOB(ops:Array Oper)(pre:List Nat)(t:DTree):Bool:=
 Region.noSelect ops&&decide (pre.length≤ops.size)&&match canPre ops ops.size pre (Array.replicate ops.size false)with
  |some L0=>canO ops t (ops.size-pre.length) L0
  |none=>false
theorem RO.draw{K:Env→World→Prop}{Q:Exit→Act→World→Prop}(hQ:∀a w σ,Fits n σ ds a→K σ w→Q .normal a w)(hP:∀c a w,¬Q (.panic c) a w)
 {id:Nat}(hm:P.follows .mixedOrders=true)(pre:List Nat)(t:DTree)(hB:drawOB ops pre t=true){σ σ1:Env}{a:Act}{w:World}(hf:Fits n σ ds a)
 (hr:rrun P n ops pre.length (pre.map (·,Kd.qui)) σ=some ([],σ1))(h:RO P ops n ds K [] t σ1 {w with drawn:=w.drawn+1}):(Code.region id ops true).wp P Q a w:=by
 simp only[drawOB,Bool.and_eq_true,decide_eq_true_eq]at hB
 obtain⟨⟨hsel,hle⟩,hcan⟩:=hB
 cases hp:canPre ops ops.size pre (Array.replicate ops.size false)with
 |none=>rw[hp]at hcan;cases hcan
 |some L0=>
  rw[hp]at hcan
  simp only at hcan
  have inv:HeadInv .any ops ops.size (Array.replicate ops.size false):=⟨by simp,fun j oj _ hl=>(by rw[getD_replicate_false]at hl;cases hl),fun t _ ht=>(by omega)⟩
  refine wp_region_any hm ?_
  have hsz:ops.size=pre.length+(ops.size-pre.length):=by omega
  rw[hsz]
  have hda:(Array.replicate (pre.length+(ops.size-pre.length)) false)=Array.replicate ops.size false:=by rw[←hsz]
  rw[hda]
  refine wpAny_pre hP hsel pre _ σ a hp inv hr hf fun _ d b=>?_
  exact wpAny_of_RO0 hQ t _ L0 d {w with drawn:=w.drawn+1} σ1 hcan b h
end
section
variable{P:Program}{f:FuncId}{n:Nat}{σ:Env}{ds:List Deferred}{w:World}{R:Ending→World→Prop}
theorem RO.leaf'{ops:Array Oper}{K:Env→World→Prop}{pre l:List (Nat×Kd)}(l':List (Nat×Kd))(hl:pre++l=l')(h:RW P ops n ds K l' σ w):RO P ops n ds K pre (.leaf l) σ w:=by
 subst hl
 unfold RO
 exact h
theorem RO.node'{ops:Array Oper}{K:Env→World→Prop}{pre l:List (Nat×Kd)}{bs:DList}(l':List (Nat×Kd))(hl:pre++l=l')(h:RW P ops n ds (fun σ' w'=>ROB P ops n ds K bs σ' w') l' σ w):RO P ops n ds K pre (.node l bs) σ w:=by
 subst hl
 unfold RO
 exact h
theorem ROB.nil'{ops:Array Oper}{K:Env→World→Prop}:ROB P ops n ds K .nil σ w:=by
 unfold ROB
 trivial
theorem ROB.cons'{ops:Array Oper}{K:Env→World→Prop}{i:Nat}{t:DTree}{r:DList}(h:RO P ops n ds K [(i,.seq)] t σ w)(k:ROB P ops n ds K r σ w):ROB P ops n ds K (.cons i t r) σ w:=by
 unfold ROB
 exact⟨h,k⟩
theorem RO.sub{ops:Array Oper}{K:Env→World→Prop}{pre:List (Nat×Kd)}{t:DTree}{σ':Env}(hp:pre≠[])(hs:∀t v,find σ' t=some v→find σ t=some v)(h:RO P ops n ds K pre t σ' w):RO P ops n ds K pre t σ w:=by
 cases t with
 |leaf l=>
  unfold RO at h⊢
  exact RW.sub (by simp[hp]) hs h
 |node l bs=>
  unfold RO at h⊢
  exact RW.sub (by simp[hp]) hs h
theorem ROB.sub{ops:Array Oper}{K:Env→World→Prop}{σ':Env}(hs:∀t v,find σ' t=some v→find σ t=some v):∀{bs:DList},ROB P ops n ds K bs σ' w→ROB P ops n ds K bs σ w
 |.nil,_=>ROB.nil'
 |.cons i t r,h=>by
  unfold ROB at h⊢
  exact⟨RO.sub (by simp) hs h.1,ROB.sub hs h.2⟩
theorem RO.fin{ops:Array Oper}{K:Env→World→Prop}{l:List (Nat×Kd)}{bs:DList}(m:Nat)(live:List Nat)(σ':Env)(h:(rrun P n ops m l σ).map (fun x=>(x.1,pick live x.2))=some ([],σ'))(hk:ROB P ops n ds K bs σ' w):
 RW P ops n ds (fun σ' w'=>ROB P ops n ds K bs σ' w') l σ w:=by
 cases hr:rrun P n ops m l σ with
 |none=>rw[hr]at h;cases h
 |some x=>
  obtain⟨_,σ1⟩:=x
  rw[hr]at h
  simp only[Option.map_some,Option.some.injEq,Prod.mk.injEq]at h
  obtain⟨rfl,rfl⟩:=h
  exact rrun_spec m l [] σ σ1 hr (ROB.sub (pick_find σ1 live) hk)
theorem WK.drawO1{c:Code}{k:List Item}(pre:List Nat)(σ1:Env)(t:DTree)(hm:P.follows .mixedOrders=true)(hc:c=.region (idOf c) (opsOf c) true)(hB:drawOB (opsOf c) pre t=true)
 (hr:rrun P n (opsOf c) pre.length (pre.map (·,Kd.qui)) σ=some ([],σ1))(h:RO P (opsOf c) n ds (fun σ' w'=>WK P f n k σ' ds w' R) [] t σ1 {w with drawn:=w.drawn+1}):WK P f n (.code c::k) σ ds w R:=by
 rw[hc]
 exact WK.code fun a ha=>RO.draw (fun a w σ hf hk=>⟨σ,hf,hk⟩) (fun c a w h=>h) hm pre t hB ha hr h
end
end Go.BX

/-
 THE ENGINE's HEAP: shapes (how Go's data read as Lean's), the one hypothesis 'Hp' on the world, and the operations that read or make memory.
 No condition.
-/
namespace Go.BX
open Go.RowKit(Below)
def Cells(w:World)(b o:Nat)(cs:List Value):Prop:=∀j v,cs[j]?=some v→w.cell? ⟨b,o+j,none⟩=some v
theorem cell_of_block{w w':World}{a:Addr}(h:w'.heap[a.block]?=w.heap[a.block]?):w'.cell? a=w.cell? a:=by
 simp only[World.cell?,h]
theorem block_lt_of_cell{w:World}{a:Addr}{v:Value}(hc:w.cell? a=some v):a.block<w.heap.size:=by
 rcases Nat.lt_or_ge a.block w.heap.size with h'|h'
 ·exact h'
 ·simp[World.cell?,Array.getElem?_eq_none h']at hc
theorem Cells.lt{w:World}{b o:Nat}{cs:List Value}(h:Cells w b o cs)(hn:0<cs.length):b<w.heap.size:=
 block_lt_of_cell (h 0 cs[0] (by simp))
theorem Cells.step{w w':World}{b o:Nat}{cs:List Value}(h:Cells w b o cs)(hb:w'.heap[b]?=w.heap[b]?):Cells w' b o cs:=
 fun j v hj=>by rw[cell_of_block hb];exact h j v hj
theorem Cells.ext{w w':World}{b o:Nat}{cs:List Value}(h:Cells w b o cs)(he:Ext w w'):Cells w' b o cs:=fun j v hj=>he.cell (h j v hj)
theorem Cells.of_block{w:World}{b:Nat}{c:Array Value}{T:TypeId}{fz:Nat×Nat}(h:w.heap[b]?=some (.cells c T fz)):Cells w b 0 c.toList:=by
 intro j v hj
 simp only[World.cell?,h,Nat.zero_add]
 simpa using hj
structure Shape(α:Type)where
 size:Nat
 rep:(Nat→Prop)→World→List Value→α→Prop
 pos:0<size
 len:∀{S w cs x},rep S w cs x→cs.length=size
 ones:∀{S w cs x},rep S w cs x→∀v∈cs,v.oneCell'=true
 step:∀{S S':Nat→Prop}{w w':World}{cs x},rep S w cs x→(∀b,S b→b<w.heap.size→S' b∧w'.heap[b]?=w.heap[b]?)→rep S' w' cs x
namespace Shape
variable{α β:Type}
def int(k:IntKind):Shape Int where
 size:=1
 rep _ _ cs x:=cs=[.int k x]∧k.min≤x∧x≤k.max
 pos:=by decide
 len h:=by rw[h.1];rfl
 ones h v hv:=by rw[h.1]at hv;simp at hv;subst hv;rfl
 step h _:=h
def bool:Shape Bool where
 size:=1
 rep _ _ cs x:=cs=[.bool x]
 pos:=by decide
 len h:=by rw[h];rfl
 ones h v hv:=by rw[h]at hv;simp at hv;subst hv;rfl
 step h _:=h
def str:Shape ByteArray where
 size:=1
 rep _ _ cs x:=cs=[.string x]∧x.size≤maxLen
 pos:=by decide
 len h:=by rw[h.1];rfl
 ones h v hv:=by rw[h.1]at hv;simp at hv;subst hv;rfl
 step h _:=h
def Elems(sh:Shape α)(S:Nat→Prop)(w:World)(a:Option Addr)(xs:List α):Prop:=
 ∀i x,xs[i]?=some x→∃b o es,a=some ⟨b,o,none⟩∧S b∧Cells w b (o+i*sh.size) es∧sh.rep S w es x
theorem Elems.step{sh:Shape α}{S S':Nat→Prop}{w w':World}{a:Option Addr}{xs:List α}(h:Elems sh S w a xs)
 (hs:∀b,S b→b<w.heap.size→S' b∧w'.heap[b]?=w.heap[b]?):Elems sh S' w' a xs:=by
 intro i x hx
 obtain⟨b,o,es,ha,hS,hc,hr⟩:=h i x hx
 have hlt:=hc.lt (by rw[sh.len hr];exact sh.pos)
 obtain⟨hS',hb⟩:=hs b hS hlt
 exact⟨b,o,es,ha,hS',hc.step hb,sh.step hr hs⟩
def slice(sh:Shape α):Shape (List α)where
 size:=1
 rep S w cs xs:=∃a cap,cs=[.slice a xs.length cap]∧xs.length≤cap∧cap≤maxLen∧Elems sh S w a xs
 pos:=by decide
 len h:=by obtain⟨a,cap,h,_⟩:=h;rw[h];rfl
 ones h v hv:=by obtain⟨a,cap,h,_⟩:=h;rw[h]at hv;simp at hv;subst hv;rfl
 step h hs:=by
  obtain⟨a,cap,h1,h2,h3,h4⟩:=h
  exact⟨a,cap,h1,h2,h3,h4.step hs⟩
def pair(s:Shape α)(t:Shape β):Shape (α×β)where
 size:=s.size+t.size
 rep S w cs x:=∃c d,cs=c++d∧s.rep S w c x.1∧t.rep S w d x.2
 pos:=by have:=s.pos;omega
 len h:=by obtain⟨c,d,h,h1,h2⟩:=h;rw[h,List.length_append,s.len h1,t.len h2]
 ones h v hv:=by
  obtain⟨c,d,h,h1,h2⟩:=h
  rw[h]at hv
  rcases List.mem_append.1 hv with hv|hv
  ·exact s.ones h1 v hv
  ·exact t.ones h2 v hv
 step h hs:=by
  obtain⟨c,d,h,h1,h2⟩:=h
  exact⟨c,d,h,s.step h1 hs,t.step h2 hs⟩
def map(s:Shape α)(f:β→α):Shape β where
 size:=s.size
 rep S w cs x:=s.rep S w cs (f x)
 pos:=s.pos
 len h:=s.len h
 ones h:=s.ones h
 step h hs:=s.step h hs
theorem slice_form{sh:Shape α}{S:Nat→Prop}{w:World}{v:Value}{xs:List α}(h:sh.slice.rep S w [v] xs):∃a cap,v=.slice a xs.length cap:=by
 obtain⟨a,cap,h,_⟩:=h
 exact⟨a,cap,by simpa using h⟩
theorem slice_form'{sh:Shape α}{S:Nat→Prop}{w:World}{cs:List Value}{xs:List α}(h:sh.slice.rep S w cs xs):∃a cap,cs=[.slice a xs.length cap]:=by
 obtain⟨a,cap,h,_⟩:=h
 exact⟨a,cap,h⟩
theorem slice_len{sh:Shape α}{S:Nat→Prop}{w:World}{cs:List Value}{xs:List α}(h:sh.slice.rep S w cs xs):xs.length≤9223372036854775807:=by
 obtain⟨a,cap,_,_,b,_⟩:=h
 unfold maxLen at b
 omega
theorem slice_nil{sh:Shape α}{S:Nat→Prop}{w:World}:sh.slice.rep S w [.slice none 0 0] []:=
 ⟨none,0,rfl,Nat.le_refl _,Nat.zero_le _,fun i x h=>by simp at h⟩
theorem elems_of{sh:Shape α}{S:Nat→Prop}{w:World}{a:Option Addr}{l cap:Nat}{xs:List α}(h:sh.slice.rep S w [.slice a l cap] xs):l=xs.length∧xs.length≤cap∧cap≤maxLen∧Elems sh S w a xs:=by
 obtain⟨a',cap',b,c,d,e⟩:=h
 simp only[List.cons.injEq,Value.slice.injEq,and_true]at b
 obtain⟨rfl,rfl,rfl⟩:=b
 exact⟨rfl,c,d,e⟩
theorem i64_bd{S:Nat→Prop}{w:World}{cs:List Value}{x:Int}(h:(int .i64).rep S w cs x):-9223372036854775808≤x∧x≤9223372036854775807:=h.2
end Shape
structure Fact where
 p:(Nat→Prop)→World→Prop
 step:∀{S S':Nat→Prop}{w w':World},p S w→(∀b,S b→b<w.heap.size→S' b∧w'.heap[b]?=w.heap[b]?)→p S' w'
def Rp{α:Type}(sh:Shape α)(cs:List Value)(x:α):Fact:=⟨fun S w=>sh.rep S w cs x,fun h hs=>sh.step h hs⟩
def Fc(b o:Nat)(cs:List Value):Fact:=
 ⟨fun S w=>0<cs.length∧S b∧Cells w b o cs,fun h hs=>⟨h.1,(hs b h.2.1 (h.2.2.lt h.1)).1,h.2.2.step (hs b h.2.1 (h.2.2.lt h.1)).2⟩⟩
structure OwnS where
 {α:Type}
 sh:Shape α
 T:TypeId
 v:Value
 xs:List α
def OwnS.blk(o:OwnS):List Nat:=match o.v with
 |.slice (some a) _ _=>[a.block]
 |_=>[]
def OwnS.ok(o:OwnS)(S:Nat→Prop)(w:World):Prop:=
 ∃cs,w.ownsRow 0 o.T o.sh.size o.v o.xs.length cs∧(∀v∈cs,v.oneCell'=true)∧∀i x,o.xs[i]?=some x→o.sh.rep S w ((cs.drop (i*o.sh.size)).take o.sh.size) x
abbrev Heap:=List (Nat×Obj)
def idsOf(M:Heap)(W:List OwnS):List Nat:=M.map (·.1)++W.flatMap (·.blk)
def Mine(w0:World)(O:List Nat)(b:Nat):Prop:=w0.heap.size≤b∨b∈O
def Av(S:Nat→Prop)(w0:World)(O:List Nat)(ids:List Nat):Nat→Prop:=fun b=>(S b∨Mine w0 O b)∧b∉ids
def Nw(S:Nat→Prop)(w:World):Nat→Prop:=fun b=>S b∨w.heap.size≤b
structure Chg(w0:World)(O:List Nat)(w:World):Prop where
 os:w.os=w0.os
 tape:w.tape=w0.tape
 output:w.output=w0.output
 size:w0.heap.size≤w.heap.size
 block:∀k,k<w0.heap.size→k∉O→w.heap[k]?=w0.heap[k]?
theorem Chg.refl(w:World)(O:List Nat):Chg w O w:=⟨rfl,rfl,rfl,Nat.le_refl _,fun _ _ _=>rfl⟩
theorem Chg.ext{w:World}{O:List Nat}{w1 w2:World}(h:Chg w O w1)(he:Ext w1 w2):Chg w O w2:=
 ⟨he.os.trans h.os,he.tape.trans h.tape,he.output.trans h.output,Nat.le_trans h.size (Below.size he),fun k hk ho=>(Below.block he k (Nat.lt_of_lt_of_le hk h.size)).trans (h.block k hk ho)⟩
theorem Chg.toExt{w w':World}(h:Chg w [] w'):Ext w w':=⟨h.os,h.tape,h.output,h.size,fun k hk=>h.block k hk (by simp)⟩
structure Hp(w0:World)(S:Nat→Prop)(O:List Nat)(M:Heap)(W:List OwnS)(G:List Fact)(w:World):Prop where
 below:Chg w0 O w
 own:∀p∈M,w.heap[p.1]?=some p.2∧Mine w0 O p.1
 slc:∀o∈W,o.ok (Av S w0 O (idsOf M W)) w∧∀b∈o.blk,Mine w0 O b
 nodup:(idsOf M W).Nodup
 facts:∀F∈G,F.p (Av S w0 O (idsOf M W)) w
section
variable{w0 w w':World}{S:Nat→Prop}{O:List Nat}{M:Heap}{W:List OwnS}{G:List Fact}
theorem OwnS.mem_blk{o:OwnS}{b:Nat}:b∈o.blk↔o.v.ownBlock=some b:=by
 unfold OwnS.blk Value.ownBlock
 rcases o.v with _|_|_|_|_|_|⟨_|a,_,_⟩|_|_|_|_|_|_|_|_<;>simp[eq_comm]
theorem OwnS.blk_lt{o:OwnS}{S:Nat→Prop}{w:World}(h:o.ok S w):∀b∈o.blk,b<w.heap.size:=by
 intro b hb
 obtain⟨cs,h,_⟩:=h
 exact(h.lt b (OwnS.mem_blk.1 hb)).2
theorem Hp.ids_lt(H:Hp w0 S O M W G w):∀b∈idsOf M W,b<w.heap.size∧Mine w0 O b:=by
 intro b hb
 rcases List.mem_append.1 hb with hb|hb
 · obtain⟨p,hp,rfl⟩:=List.mem_map.1 hb
   exact⟨(Array.getElem?_eq_some_iff.1 (H.own p hp).1).1, (H.own p hp).2⟩
 · obtain⟨o,ho,hb⟩:=List.mem_flatMap.1 hb
   exact⟨OwnS.blk_lt (H.slc o ho).1 b hb,(H.slc o ho).2 b hb⟩
theorem ownsRow_step{w w':World}{e:TypeId}{size:Nat}{v:Value}{n:Nat}{cs:List Value}(h:w.ownsRow 0 e size v n cs)(hb:∀b,v.ownBlock=some b→w'.heap[b]?=w.heap[b]?):w'.ownsRow 0 e size v n cs:=by
 obtain⟨c,a⟩:=h
 refine⟨c,?_⟩
 rcases a with a|⟨g,cap,cur,hv,d,hh,r⟩
 ·exact .inl a
 ·exact .inr ⟨g,cap,cur,hv,d,by rw[hb g (by simp[hv,Value.ownBlock])];exact hh,r⟩
theorem OwnS.ok_step{o:OwnS}{S S':Nat→Prop}{w w':World}(h:o.ok S w)(hb:∀b∈o.blk,w'.heap[b]?=w.heap[b]?)
 (hs:∀b,S b→b<w.heap.size→S' b∧w'.heap[b]?=w.heap[b]?):o.ok S' w':=by
 obtain⟨cs,a,c,d⟩:=h
 exact⟨cs,ownsRow_step a fun b hv=>hb b (OwnS.mem_blk.2 hv),c,fun i x hx=>o.sh.step (d i x hx) hs⟩
theorem Hp.keep(H:Hp w0 S O M W G w)(hw:Chg w0 O w')(hb:∀b,b<w.heap.size→(Mine w0 O b∨S b)→w'.heap[b]?=w.heap[b]?):Hp w0 S O M W G w':=by
 have hs:∀b,Av S w0 O (idsOf M W) b→b<w.heap.size→Av S w0 O (idsOf M W) b∧w'.heap[b]?=w.heap[b]?:=fun b h hlt=>⟨h,hb b hlt h.1.symm⟩
 refine⟨hw,fun p hp=>⟨?_,(H.own p hp).2⟩,fun o ho=>⟨OwnS.ok_step (H.slc o ho).1 (fun b hb'=>?_) hs,(H.slc o ho).2⟩,H.nodup,fun F hF=> F.step (H.facts F hF) hs⟩
 · have hid := H.ids_lt p.1 (List.mem_append_left _ (List.mem_map.2 ⟨p, hp, rfl⟩))
   rw[hb p.1 hid.1 (.inl hid.2)]; exact(H.own p hp).1
 · have hid:=H.ids_lt b (List.mem_append_right _ (List.mem_flatMap.2 ⟨o,ho,hb'⟩))
   exact hb b hid.1 (.inl hid.2)
theorem Hp.ext(H:Hp w0 S O M W G w)(he:Ext w w'):Hp w0 S O M W G w':=
 H.keep (H.below.ext he) fun b hb _=>Below.block he b hb
theorem Hp.draw(H:Hp w0 S O M W G w):Hp w0 S O M W G {w with drawn:=w.drawn+1}:=H.ext (Ext.drew w)
theorem Hp.fact(H:Hp w0 S O M W G w){F:Fact}(i:Nat)(h:G[i]?=some F):F.p (Av S w0 O (idsOf M W)) w:=H.facts F (List.mem_of_getElem? h)
theorem Hp.rp(H:Hp w0 S O M W G w){α:Type}{sh:Shape α}{cs:List Value}{x:α}(i:Nat)(h:G[i]?=some (Rp sh cs x)):sh.rep (Av S w0 O (idsOf M W)) w cs x:=H.fact i h
theorem Hp.add(H:Hp w0 S O M W G w){F:Fact}(h:F.p (Av S w0 O (idsOf M W)) w):Hp w0 S O M W (F::G) w:=
 ⟨H.below,H.own,H.slc,H.nodup,fun F' hF=>by
  rcases List.mem_cons.1 hF with rfl|hF
  ·exact h
  ·exact H.facts F' hF⟩
theorem Hp.addN(H:Hp w0 S O M W G w)(he:Ext w w'){F:Fact}(h:F.p (Nw (Av S w0 O (idsOf M W)) w) w'):Hp w0 S O M W (F::G) w':=by
 refine(H.ext he).add (F.step h fun b hb _=>⟨?_,rfl⟩)
 rcases hb with hb|hb
 ·exact hb
 ·exact⟨.inr (.inl (Nat.le_trans H.below.size hb)),fun hid=>by have:=(H.ids_lt b hid).1;omega⟩
theorem Hp.facts_sub(H:Hp w0 S O M W G w){G':List Fact}(h:∀F∈G',F∈G):Hp w0 S O M W G' w:=
 ⟨H.below,H.own,H.slc,H.nodup,fun F hF=>H.facts F (h F hF)⟩
def pickG(G:List Fact)(l:List Nat):List Fact:=l.filterMap (G[·]?)
theorem Hp.pick(H:Hp w0 S O M W G w)(l:List Nat){G':List Fact}(h:pickG G l=G'):Hp w0 S O M W G' w:=
 H.facts_sub fun F hF=>by
  subst h
  obtain⟨i,_,hi⟩:=List.mem_filterMap.1 hF
  exact List.mem_of_getElem? hi
theorem Hp.cells(H:Hp w0 S O M W G w){b:Nat}{c:Array Value}{T:TypeId}{fz:Nat×Nat}(i:Nat)(h:M[i]?=some (b,.cells c T fz)):Cells w b 0 c.toList:=
 Cells.of_block (H.own _ (List.mem_of_getElem? h)).1
theorem Hp.fc(H:Hp w0 S O M W G w){b o:Nat}{cs:List Value}(i:Nat)(h:G[i]?=some (Fc b o cs)):Cells w b o cs:=(H.fact i h).2.2
theorem Hp.out(_H:Hp w0 S [] M W G w){α:Type}{sh:Shape α}{cs:List Value}{x:α}(h:sh.rep (Av S w0 [] (idsOf M W)) w cs x):sh.rep (Nw S w0) w cs x:=
 sh.step h fun _ hb _=>⟨hb.1.imp id (fun h=>h.elim id (fun h=>by cases h)),rfl⟩
theorem Hp.done(H:Hp w0 S [] M W G w):Ext w0 w:=H.below.toExt
theorem Hp.alloc(H:Hp w0 S O M W G w)(o:Obj):Hp w0 S O ((w.heap.size,o)::M) W G {w with heap:=w.heap.push o}:=by
 have hsz:=H.below.size
 have hlt:∀b,b<w.heap.size→(w.heap.push o)[b]?=w.heap[b]?:=fun b hb=>by rw[Array.getElem?_push,if_neg (by omega)]
 have hs:∀b,Av S w0 O (idsOf M W) b→b<w.heap.size→Av S w0 O (idsOf ((w.heap.size,o)::M) W) b∧(w.heap.push o)[b]?=w.heap[b]?:=fun b h hb=>
  ⟨⟨h.1,fun hid=>by
   simp only[idsOf,List.map_cons,List.cons_append,List.mem_cons]at hid
   rcases hid with hid|hid
   ·omega
   ·exact h.2 hid⟩,hlt b hb⟩
 have he:Ext w {w with heap:=w.heap.push o}:=⟨rfl,rfl,rfl,by simp,fun k hk=>hlt k hk⟩
 refine⟨H.below.ext he,fun p hp=>?_,fun o' ho=>⟨OwnS.ok_step (w':={w with heap:=w.heap.push o}) (H.slc o' ho).1 (fun b hb=>hlt b (OwnS.blk_lt (H.slc o' ho).1 b hb)) hs,(H.slc o' ho).2⟩,?_,fun F hF=>F.step (w':={w with heap:=w.heap.push o}) (H.facts F hF) hs⟩
 · rcases List.mem_cons.1 hp with rfl | hp
   · exact⟨by simp, .inl hsz⟩
   · have := H.own p hp
     exact⟨by show(w.heap.push o)[p.1]?= _; rw[hlt _ (Array.getElem?_eq_some_iff.1 this.1).1]; exact this.1, this.2⟩
 · show(w.heap.size ::idsOf M W).Nodup
   exact List.nodup_cons.2 ⟨fun h=>by have:=(H.ids_lt _ h).1;omega,H.nodup⟩
theorem nodup_inj{l:List Nat}(h:l.Nodup){i j:Nat}(hi:i<l.length)(hj:j<l.length)(e:l[i]=l[j]):i=j:=by
 rcases Nat.lt_trichotomy i j with hlt|heq|hgt
 ·exact absurd e (List.pairwise_iff_getElem.1 h i j hi hj hlt)
 ·exact heq
 ·exact absurd e.symm (List.pairwise_iff_getElem.1 h j i hj hi hgt)
theorem sublist_flatMap{α β:Type _}{l l':List α}(f:α→List β)(h:l.Sublist l'):(l.flatMap f).Sublist (l'.flatMap f):=by
 induction h with
 |slnil=>exact List.Sublist.refl _
 |cons a _ ih=>simp only[List.flatMap_cons];exact List.Sublist.trans ih (List.sublist_append_right _ _)
 |cons_cons a _ ih=>simp only[List.flatMap_cons];exact List.Sublist.append (List.Sublist.refl _) ih
theorem mem_set_cases{α:Type _}{l:List α}{i:Nat}{x y:α}(h:y∈l.set i x):y=x∨∃j,j≠i∧l[j]?=some y:=by
 obtain⟨j,hj,hjy⟩:= List.mem_iff_getElem.1 h
 rw[List.getElem_set]at hjy
 split at hjy
 · exact .inl hjy.symm
 · rename_i hne
   refine .inr ⟨j,fun e=>hne e.symm,?_⟩
   rw[List.length_set]at hj
   rw[List.getElem?_eq_getElem hj,hjy]
theorem ids_set{M:Heap}{W:List OwnS}{i b:Nat}{o o':Obj}(h:M[i]?=some (b,o)):idsOf (M.set i (b,o')) W=idsOf M W:=by
 unfold idsOf
 congr 1
 apply List.ext_getElem?
 intro j
 simp only[List.getElem?_map,List.getElem?_set]
 by_cases hij:i= j
 · subst hij
   have :i<M.length:=(List.getElem?_eq_some_iff.1 h).1
   have e:=(List.getElem?_eq_some_iff.1 h).2
   simp[this,e]
 ·simp[hij]
theorem Hp.chg(H:Hp w0 S O M W G w){O1:List Nat}(hO:∀b∈O1,b∈idsOf M W)(hc:Chg w O1 w'){M':Heap}{W':List OwnS}
 (hids:∀b∈idsOf M' W',b∈idsOf M W∨w.heap.size≤b)(hnd:(idsOf M' W').Nodup)(hO':∀b∈O1,b∈idsOf M' W'∨∀c,Av S w0 O (idsOf M W) c→c≠b)
 (hM:∀p∈M',w'.heap[p.1]?=some p.2)(hW:∀o∈W',o.ok (Av S w0 O (idsOf M' W')) w'):Hp w0 S O M' W' G w':=by
 have hs:∀b,Av S w0 O (idsOf M W) b→b<w.heap.size→Av S w0 O (idsOf M' W') b∧w'.heap[b]?=w.heap[b]?:=fun b h hb=>
  ⟨⟨h.1,fun hid=>by rcases hids b hid with h'|h';exact h.2 h';omega⟩,hc.block b hb fun ho=>h.2 (hO b ho)⟩
 have mine:∀b∈idsOf M' W',Mine w0 O b:=fun b hb=>by
  rcases hids b hb with h|h
  ·exact(H.ids_lt b h).2
  ·exact .inl (Nat.le_trans H.below.size h)
 have _:=hO'
 refine⟨⟨hc.os.trans H.below.os,hc.tape.trans H.below.tape,hc.output.trans H.below.output,Nat.le_trans H.below.size hc.size,fun k hk ho=>?_⟩,fun p hp=>⟨hM p hp,mine _ (List.mem_append_left _ (List.mem_map.2 ⟨p,hp,rfl⟩))⟩,
  fun o ho=>⟨hW o ho,fun b hb=>mine b (List.mem_append_right _ (List.mem_flatMap.2 ⟨o,ho,hb⟩))⟩,hnd,fun F hF => F.step (H.facts F hF) hs⟩
 rw[hc.block k (Nat.lt_of_lt_of_le hk H.below.size) fun a =>?_]
 · exact H.below.block k hk ho
 · rcases(H.ids_lt k (hO k a)).2 with h | h
   · omega
   · exact ho h
theorem own_ne(H:Hp w0 S O M W G w){b:Nat}{o:Obj}{i:Nat}(h:M[i]?=some (b,o)):(∀p,∀j,j≠i→M[j]?=some p→p.1≠b)∧∀o1∈W,b∉o1.blk:=by
 have hnd:=H.nodup
 have hm:= List.mem_of_getElem? h
 constructor
 · intro p j hj hp e
   have a : (M.map (·.1)).Nodup :=(List.nodup_append.1 hnd).1
   have hi':i<(M.map (·.1)).length:=by simpa using(List.getElem?_eq_some_iff.1 h).1
   have hj':j<(M.map (·.1)).length:=by simpa using(List.getElem?_eq_some_iff.1 hp).1
   have c:(M.map (·.1))[i]=b:=by
    have:=(List.getElem?_eq_some_iff.1 h).2
    simp[this]
   have d:(M.map (·.1))[j]=b:=by
    have:=(List.getElem?_eq_some_iff.1 hp).2
    simp[this,e]
   exact hj (nodup_inj a hj' hi' (d.trans c.symm))
 · intro o1 ho hb
   exact(List.nodup_append.1 hnd).2.2 b (List.mem_map.2 ⟨_, hm, rfl⟩) b (List.mem_flatMap.2 ⟨o1, ho, hb⟩) rfl
theorem Hp.put(H:Hp w0 S O M W G w){b:Nat}{o:Obj}(i:Nat)(h:M[i]?=some (b,o))(o':Obj):Hp w0 S O (M.set i (b,o')) W G {w with heap:=w.heap.setIfInBounds b o'}:=by
 have hm:=List.mem_of_getElem? h
 have hb:=H.own _ hm
 have hlt:b<w.heap.size:=(Array.getElem?_eq_some_iff.1 hb.1).1
 have hne:∀k,k≠b→(w.heap.setIfInBounds b o')[k]?=w.heap[k]?:=fun k hk=>by rw[Array.getElem?_setIfInBounds_ne (Ne.symm hk)]
 have hid:=ids_set (W:=W) (o':=o') h
 have hbid:b∈idsOf M W:=List.mem_append_left _ (List.mem_map.2 ⟨_,hm,rfl⟩)
 obtain⟨d,f⟩:=own_ne H h
 have hc:Chg w [b] {w with heap:=w.heap.setIfInBounds b o'}:=⟨rfl,rfl,rfl,by simp,fun k _ hk=>hne k (by simpa using hk)⟩
 refine H.chg (O1:=[b]) (fun c hc=>by rw[List.mem_singleton.1 hc];exact hbid) hc (fun c hc=>.inl (by rw[hid]at hc;exact hc)) (by rw[hid];exact H.nodup) (fun c hc=>.inl (by rw[hid,List.mem_singleton.1 hc];exact hbid)) (fun p hp =>?_) (fun a ho =>?_)
 · rcases mem_set_cases hp with rfl |⟨j, hj, hp⟩
   · simp[hlt]
   · show(w.heap.setIfInBounds b o')[p.1]?= _
     rw[hne p.1 (d p j hj hp)]; exact(H.own p (List.mem_of_getElem? hp)).1
 · rw[hid]
   exact OwnS.ok_step (w' := {w with heap:=w.heap.setIfInBounds b o'}) (H.slc a ho).1 (fun k hk=>hne k fun e=>f a ho (e▸hk)) fun k hk _=>⟨hk,hne k fun e=>hk.2 (e▸hbid)⟩
theorem Hp.drop(H:Hp w0 S O M W G w){M':Heap}{W':List OwnS}(hM:M'.Sublist M)(hW:W'.Sublist W):Hp w0 S O M' W' G w:=by
 have hids:(idsOf M' W').Sublist (idsOf M W):=List.Sublist.append (hM.map _) (sublist_flatMap _ hW)
 have hs:∀b,Av S w0 O (idsOf M W) b→b<w.heap.size→Av S w0 O (idsOf M' W') b∧w.heap[b]?=w.heap[b]?:=fun b h _=>⟨⟨h.1,fun hid=>h.2 (hids.subset hid)⟩,rfl⟩
 exact⟨H.below,fun p hp=>H.own p (hM.subset hp),fun o ho=>⟨OwnS.ok_step (H.slc o (hW.subset ho)).1 (fun _ _=>rfl) hs,(H.slc o (hW.subset ho)).2⟩,H.nodup.sublist hids,fun F hF=>F.step (H.facts F hF) hs⟩
def Facts(S:Nat→Prop)(w:World)(G:List Fact):Prop:=∀F∈G,F.p S w
theorem Facts.nil{S:Nat→Prop}{w:World}:Facts S w []:=fun _ h=>(by cases h)
theorem Facts.cons{S:Nat→Prop}{w:World}{F:Fact}{G:List Fact}(h:F.p S w)(k:Facts S w G):Facts S w (F::G):=fun F' hF=>by
 rcases List.mem_cons.1 hF with rfl|hF
 ·exact h
 ·exact k F' hF
theorem Facts.rp{S:Nat→Prop}{w:World}{α:Type}{sh:Shape α}{cs:List Value}{x:α}{G:List Fact}(h:sh.rep S w cs x)(k:Facts S w G):Facts S w (Rp sh cs x::G):=k.cons h
theorem Hp.startF{w:World}{S:Nat→Prop}{G:List Fact}(h:Facts S w G):Hp w S [] [] [] G w:=
 ⟨Chg.refl _ _,fun _ h=>(by cases h),fun _ h=>(by cases h),List.nodup_nil,fun F hF=>F.step (h F hF) fun b hb _=>⟨⟨.inl hb,fun hid=>by cases hid⟩,rfl⟩⟩
theorem Hp.startM{w:World}{S:Nat→Prop}{M:Heap}{W:List OwnS}{G:List Fact}(h:Facts S w G)(hM:∀p∈M,w.heap[p.1]?=some p.2)(hW:∀o∈W,o.ok S w)(hn:(idsOf M W).Nodup)(hS:∀b∈idsOf M W,¬S b):Hp w S (idsOf M W) M W G w:=by
 have hs:∀b,S b→b<w.heap.size→Av S w (idsOf M W) (idsOf M W) b∧w.heap[b]?=w.heap[b]?:=fun b hb _=>⟨⟨.inl hb,fun hid=>hS b hid hb⟩,rfl⟩
 exact⟨Chg.refl _ _,fun p hp=>⟨hM p hp,.inr (List.mem_append_left _ (List.mem_map.2 ⟨p,hp,rfl⟩))⟩,fun o ho=>⟨OwnS.ok_step (hW o ho) (fun _ _=>rfl) hs,fun b hb=>.inr (List.mem_append_right _ (List.mem_flatMap.2 ⟨o,ho,hb⟩))⟩,hn,fun F hF=>F.step (h F hF) hs⟩
end
end Go.BX

/-
 THE ENGINE's OPERATIONS: what one operation of a region does to the environment and to 'Hp'.
 No condition.
-/
namespace Go.BX
open Go.RowKit(Below)
def putO(d:Option Tmp)(v:Value)(σ:Env):Env:=match d with
 |some d=>(d,v)::σ
 |none=>σ
def look(_P:Program)(n:Nat)(ops:Array Oper)(l:List (Nat×Kd))(σ:Env):Option (Kd×Sem Next×Option Tmp×List (Nat×Kd)):=
 match l with
 |[]=>none
 |(i,κ)::r=>match ops[i]? with
  |none=>none
  |some o=>match wantE ops σ o with
   |some true=>cond (known σ o&&(match o.dst with|some d=>Nat.blt d n|none=>true)) (some (κ,execOp (rho σ) o,o.dst,r)) none
   |_=>none
def lookC(P:Program)(n:Nat)(ops:Array Oper)(l:List (Nat×Kd))(σ:Env):Option (Kd×FuncId×Array Value×Option Tmp×List (Nat×Kd)):=
 match look P n ops l σ with
 |some (κ,s,d,r)=>match pureN P s with
  |some (.enter g args)=>some (κ,g,args,d,r)
  |_=>none
 |none=>none
def newAt(P:Program)(b:Nat):Sem Next→Option (Obj×Value)
 |.program k=>newAt P b (k P)
 |.mark _ k=>newAt P b k
 |.new o k=>match pureN P (k b)with
  |some (.value v)=>some (o,v)
  |_=>none
 |_=>none
def lookM(P:Program)(n:Nat)(ops:Array Oper)(l:List (Nat×Kd))(σ:Env)(b:Nat):Option (Kd×Obj×Value×Option Tmp×List (Nat×Kd)):=
 match look P n ops l σ with
 |some (κ,s,d,r)=>match newAt P b s with
  |some (o,v)=>some (κ,o,v,d,r)
  |none=>none
 |none=>none
def semV(s:Sem Value):Sem Next:=do pure (.value (←s))
def semU(s:Sem Unit):Sem Next:=do s;pure .skip
theorem semV_run{P:Program}{s:Sem Value}{w w':World}{v:Value}(h:s.run P w=.ok v w'):(semV s).run P w=.ok (.value v) w':=by
 simp[semV,h]
theorem semU_run{P:Program}{s:Sem Unit}{w w':World}(h:s.run P w=.ok () w'):(semU s).run P w=.ok .skip w':=by
 simp[semU,h]
section
variable{P:Program}{n:Nat}{ds:List Deferred}{ops:Array Oper}{K:Env→World→Prop}{l r:List (Nat×Kd)}{σ:Env}{w w1:World}{κ:Kd}{d:Option Tmp}
theorem putO_fits{a:Act}(hf:Fits n σ ds a)(v:Value)(hd:(match d with|some d=>Nat.blt d n|none=>true)=true):Fits n (putO d v σ) ds (a.put d v):=by
 cases d with
 |none=>exact hf
 |some d=>
  have hlt:d+1≤n:=by simpa[Nat.blt]using hd
  exact hf.put (d:=d) (Nat.lt_of_succ_le hlt) v
theorem look_spec{s:Sem Next}(h:look P n ops l σ=some (κ,s,d,r)):∃i o,l=(i,κ)::r∧ops[i]?=some o∧o.dst=d∧
 (∀a,Fits n σ ds a→Region.wanted o (yielded ops a.tmps)=true∧execOp a.eval o=s∧∀v,Fits n (putO d v σ) ds (a.put o.dst v)):=by
 unfold look at h
 cases l with
 |nil=>cases h
 |cons x r'=>
  obtain⟨i,κ'⟩:=x
  simp only at h
  cases ho:ops[i]? with
  |none=>rw[ho]at h;cases h
  |some o=>
   rw[ho]at h
   simp only at h
   cases hw:wantE ops σ o with
   |none=>rw[hw]at h;cases h
   |some b=>
    rw[hw]at h
    cases b with
    |false=>cases h
    |true=>
     simp only at h
     cases hk:known σ o&&(match o.dst with|some d=>Nat.blt d n|none=>true)with
     |false=>rw[hk]at h;cases h
     |true=>
      rw[hk]at h
      simp only[cond_true,Option.some.injEq,Prod.mk.injEq]at h
      obtain⟨rfl,rfl,rfl,rfl⟩:=h
      rw[Bool.and_eq_true]at hk
      exact⟨i,o,rfl,ho,rfl,fun a ha=>⟨wantE_spec ha hw,execOp_rho ha hk.1,fun v=>putO_fits ha v hk.2⟩⟩
theorem OW.intro{o:Oper}{a:Act}{K:Act→World→Prop}(hw:Region.wanted o (yielded ops a.tmps)=true)(h:o.wp P a w K (fun _ _ _=>False)):OW P ops o a w K:=by
 unfold OW;rw[if_pos hw];exact h
theorem wp_value{o:Oper}{a:Act}{K:Act→World→Prop}{v:Value}(hs:(execOp a.eval o).run P w=.ok (.value v) w1)(h:K (a.put o.dst v) w1):o.wp P a w K (fun _ _ _=>False):=by
 simp only[Oper.wp,hs,Oper.upon];exact h
theorem wp_skip'{o:Oper}{a:Act}{K:Act→World→Prop}(hs:(execOp a.eval o).run P w=.ok .skip w1)(h:K (a.put o.dst undef) w1):o.wp P a w K (fun _ _ _=>False):=by
 simp only[Oper.wp,hs,Oper.upon];exact h
theorem wp_enter{o:Oper}{a:Act}{K:Act→World→Prop}{g:FuncId}{args:Array Value}(hs:(execOp a.eval o).run P w=.ok (.enter g args) w1)
 (h:Calls P g args w1 fun e w'=>∃v,e=.returned v∧K (a.put o.dst v) w'):o.wp P a w K (fun _ _ _=>False):=by
 simp only[Oper.wp,hs,Oper.upon]
 exact h.mono fun e w'⟨v,he,hk⟩=>by subst he;exact hk
theorem RW.readS{s:Sem Next}{v:Value}(hl:look P n ops l σ=some (κ,s,d,r))(hs:∀w',Ext w w'→s.run P w'=.ok (.value v) w')(hk:RW P ops n ds K r (putO d v σ) w):RW P ops n ds K l σ w:=by
 obtain⟨i,o,rfl,ho,hd,h⟩:=look_spec (ds:=ds) hl
 refine⟨o,ho,opK_stable fun a ha=>?_⟩
 obtain⟨hw,he,hf⟩:=h a ha
 exact⟨v,.inl ⟨hw,fun w' h'=>by rw[he];exact hs w' h'⟩,_,hf v,hk⟩
theorem RW.makeS{s:Sem Next}{v:Value}(hl:look P n ops l σ=some (κ,s,d,r))(hκ:κ≠.qui)(hs:s.run P w=.ok (.value v) w1)(he:Ext w w1)(hk:RW P ops n ds K r (putO d v σ) w1):RW P ops n ds K l σ w:=by
 obtain⟨i,o,rfl,ho,hd,h⟩:=look_spec (ds:=ds) hl
 refine⟨o,ho,fun a ha=>?_⟩
 obtain⟨hw,hx,hf⟩:=h a ha
 cases κ with
 |seq=>exact OW.intro hw (wp_value (by rw[hx];exact hs) ⟨_,hf v,hk⟩)
 |chn=>exact OW.intro hw (wp_value (by rw[hx];exact hs) ⟨he,_,hf v,hk⟩)
 |qui=>exact absurd rfl hκ
theorem RW.actV{s:Sem Next}{v:Value}(hl:look P n ops l σ=some (.seq,s,d,r))(hs:s.run P w=.ok (.value v) w1)(hk:RW P ops n ds K r (putO d v σ) w1):RW P ops n ds K l σ w:=by
 obtain⟨i,o,rfl,ho,hd,h⟩:=look_spec (ds:=ds) hl
 refine⟨o,ho,fun a ha=>?_⟩
 obtain⟨hw,hx,hf⟩:=h a ha
 exact OW.intro hw (wp_value (by rw[hx];exact hs) ⟨_,hf v,hk⟩)
theorem RW.actU{s:Sem Next}(hl:look P n ops l σ=some (.seq,s,d,r))(hs:s.run P w=.ok .skip w1)(hk:RW P ops n ds K r (putO d undef σ) w1):RW P ops n ds K l σ w:=by
 obtain⟨i,o,rfl,ho,hd,h⟩:=look_spec (ds:=ds) hl
 refine⟨o,ho,fun a ha=>?_⟩
 obtain⟨hw,hx,hf⟩:=h a ha
 exact OW.intro hw (wp_skip' (by rw[hx];exact hs) ⟨_,hf undef,hk⟩)
def Ret(φ:Value→World→Prop):Ending→World→Prop:=fun e w'=>∃v,e=.returned v∧φ v w'
theorem lookC_spec{g:FuncId}{args:Array Value}(h:lookC P n ops l σ=some (κ,g,args,d,r)):∃s,look P n ops l σ=some (κ,s,d,r)∧∀w,s.run P w=.ok (.enter g args) w:=by
 unfold lookC at h
 cases hl:look P n ops l σ with
 |none=>rw[hl]at h;cases h
 |some x=>
  obtain⟨κ',s,d',r'⟩:=x
  rw[hl]at h
  simp only at h
  cases hp:pureN P s with
  |none=>rw[hp]at h;cases h
  |some y=>
   rw[hp]at h
   cases y<;>simp only[reduceCtorEq,Option.some.injEq,Prod.mk.injEq]at h
   obtain⟨rfl,rfl,rfl,rfl,rfl⟩:=h
   exact⟨s,rfl,pureN_run hp⟩
theorem RW.call{g:FuncId}{args:Array Value}{φ:Value→World→Prop}(hl:lookC P n ops l σ=some (κ,g,args,d,r))(hκ:κ≠.qui)(hc:Calls P g args w (Ret fun v w'=>Ext w w'∧φ v w'))
 (hk:∀v w',Ext w w'→φ v w'→RW P ops n ds K r (putO d v σ) w'):RW P ops n ds K l σ w:=by
 obtain⟨s,hl,hs⟩:=lookC_spec hl
 obtain⟨i,o,rfl,ho,hd,h⟩:=look_spec (ds:=ds) hl
 refine⟨o,ho,fun a ha=>?_⟩
 obtain⟨hw,hx,hf⟩:=h a ha
 cases κ with
 |seq=>exact OW.intro hw (wp_enter (by rw[hx];exact hs w) (hc.mono fun e w'⟨v,he,hE,hφ⟩=>⟨v,he,_,hf v,hk v w' hE hφ⟩))
 |chn=>exact OW.intro hw (wp_enter (by rw[hx];exact hs w) (hc.mono fun e w'⟨v,he,hE,hφ⟩=>⟨v,he,hE,_,hf v,hk v w' hE hφ⟩))
 |qui=>exact absurd rfl hκ
theorem RW.callS{g:FuncId}{args:Array Value}{φ:Value→World→Prop}(hl:lookC P n ops l σ=some (.seq,g,args,d,r))(hc:Calls P g args w (Ret φ))
 (hk:∀v w',φ v w'→RW P ops n ds K r (putO d v σ) w'):RW P ops n ds K l σ w:=by
 obtain⟨s,hl,hs⟩:=lookC_spec hl
 obtain⟨i,o,rfl,ho,hd,h⟩:=look_spec (ds:=ds) hl
 refine⟨o,ho,fun a ha=>?_⟩
 obtain⟨hw,hx,hf⟩:=h a ha
 exact OW.intro hw (wp_enter (by rw[hx];exact hs w) (hc.mono fun e w'⟨v,he,hφ⟩=>⟨v,he,_,hf v,hk v w' hφ⟩))
theorem newAt_run{o:Obj}{v:Nat→Value}:∀{s:Sem Next},(∀b,newAt P b s=some (o,v b))→∀w,s.run P w=.ok (.value (v w.heap.size)) {w with heap:=w.heap.push o}:=by
 intro s
 induction s with
 |program k ih=>intro h w;simp only[newAt]at h;simp only[Sem.run];exact ih P h w
 |mark m k ih=>intro h w;simp only[newAt]at h;simp only[Sem.run];exact ih h w
 |new o' k ih=>
  intro h w
  have a:=h w.heap.size
  simp only[newAt]at a
  cases hp:pureN P (k w.heap.size)with
  |none=>rw[hp]at a;cases a
  |some x=>
   rw[hp]at a
   cases x<;>simp only[reduceCtorEq,Option.some.injEq,Prod.mk.injEq]at a
   obtain⟨rfl,c⟩:=a
   simp only[Sem.run]
   rw[pureN_run hp,c]
 |_=>intro h;have:=h 0;simp[newAt]at this
theorem RW.new{w0:World}{S:Nat→Prop}{O:List Nat}{M:Heap}{W:List OwnS}{G:List Fact}{o:Obj}{v:Nat→Value}(hl:∀b,lookM P n ops l σ b=some (κ,o,v b,d,r))(hκ:κ≠.qui)(H:Hp w0 S O M W G w)
 (hk:∀b w',Hp w0 S O ((b,o)::M) W G w'→RW P ops n ds K r (putO d (v b) σ) w'):RW P ops n ds K l σ w:=by
 have c:∃s,look P n ops l σ=some (κ,s,d,r)∧∀b,newAt P b s=some (o,v b):=by
  have a:=hl 0
  unfold lookM at a
  cases hlk:look P n ops l σ with
  |none=>rw[hlk]at a;cases a
  |some x=>
   obtain⟨κ',s,d',r'⟩:=x
   rw[hlk]at a
   simp only at a
   have all:∀b,κ'=κ∧newAt P b s=some (o,v b)∧d'=d∧r'=r:=by
    intro b
    have hb:=hl b
    unfold lookM at hb
    rw[hlk]at hb
    simp only at hb
    cases hn:newAt P b s with
    |none=>rw[hn]at hb;cases hb
    |some y=>
     obtain⟨o',u⟩:=y
     rw[hn]at hb
     simp only[Option.some.injEq,Prod.mk.injEq]at hb
     obtain⟨rfl,rfl,e,rfl,rfl⟩:=hb
     exact⟨rfl,by rw[e],rfl,rfl⟩
   obtain⟨rfl,_,rfl,rfl⟩:=all 0
   exact⟨s,rfl,fun b=>(all b).2.1⟩
 obtain⟨s,hl,hn⟩:=c
 exact RW.makeS hl hκ (newAt_run hn w) ⟨rfl,rfl,rfl,by simp,fun k hk=>by
  show(w.heap.push o)[k]?=_
  rw[Array.getElem?_push,if_neg (by omega)]⟩ (hk _ _ (H.alloc o))
def aggB(P:Program)(T:TypeId):Bool:=match P.underlying T with
 |some (.struct _)|some (.array _ _)=>true
 |_=>false
def loadE(P:Program)(T:TypeId)(cs:List Value)(k:Nat):Option Value:=
 match P.underlying T,P.info? T with
 |some _,some i=>cond (aggB P T) (cond (Nat.ble (k+i.size) cs.length) (some (.agg ((cs.drop k).take i.size).toArray)) none) (cs[k]?)
 |_,_=>none
theorem addr_lit(b o j:Nat):(⟨b,o,none⟩:Addr).add j=⟨b,o+j,none⟩:=by
 unfold Addr.add
 split<;>simp_all
theorem loadCellsFrom_run{b o:Nat}:∀(m i:Nat)(acc:Array Value)(cs:List Value)(w:World),cs.length=m→(∀j v,cs[j]?=some v→w.cell? ⟨b,o+i+j,none⟩=some v)→
 (loadCellsFrom ⟨b,o,none⟩ i m acc).run P w=.ok (acc++cs.toArray) w
 |0,i,acc,cs,w,hl,_=>by
  have:cs=[]:=List.eq_nil_of_length_eq_zero hl
  subst this
  simp[loadCellsFrom]
 |m+1,i,acc,cs,w,hl,hc=>by
  cases cs with
  |nil=>simp at hl
  |cons v r=>
   have h0:=hc 0 v rfl
   simp only[Nat.add_zero]at h0
   have hr:=loadCellsFrom_run m (i+1) (acc.push v) r w (by simpa using hl) (fun j u hj=>by
    have:=hc (j+1) u (by simpa using hj)
    rw[show o+(i+1)+j=o+i+(j+1)by omega];exact this)
   simp[loadCellsFrom,addr_lit,h0,hr]
theorem loadAt_run{T:TypeId}{b o k o':Nat}{cs:List Value}{v:Value}(hc:Cells w b o cs)(hk:o'=o+k)(he:loadE P T cs k=some v):(Instr.loadAt T (.pointer (some ⟨b,o',none⟩))).run P w=.ok v w:=by
 subst hk
 unfold loadE at he
 cases hu:P.underlying T with
 |none=>rw[hu]at he;cases he
 |some dd=>
  cases hi:P.info? T with
  |none=>rw[hu,hi]at he;cases he
  |some i=>
   rw[hu,hi]at he
   simp only at he
   have hagg:(isAgg T).run P w=.ok (aggB P T) w:=by
    unfold isAgg aggB
    simp only[underlying,Sem.run_bind,run_program,Result.andThen_ok,hu,Sem.run_pure]
    cases dd<;>rfl
   cases hb:aggB P T with
   |false=>
    rw[hb]at he
    simp only[cond_false]at he
    have a:=hc k v he
    simp[Instr.loadAt,Instr.sureAddr,loadVar,hagg,hb,a]
   |true=>
    rw[hb]at he
    simp only[cond_true]at he
    cases hle:Nat.ble (k+i.size) cs.length with
    |false=>rw[hle]at he;cases he
    |true=>
     rw[hle]at he
     simp only[cond_true,Option.some.injEq]at he
     have hle':=Nat.le_of_ble_eq_true hle
     have hlc:=loadCellsFrom_run (P:=P) (b:=b) (o:=o+k) i.size 0 #[] ((cs.drop k).take i.size) w (by simp;omega) (fun j u hj => by
      rw[List.getElem?_take]at hj
      split at hj
      · rw[List.getElem?_drop]at hj
        have := hc (k + j) u hj
        rw[show o +k+0+j=o+(k+j)by omega];exact this
      ·cases hj)
     simp[Instr.loadAt,Instr.sureAddr,loadVar,hagg,hb,sizeOf,typeInfo,hi,loadCells,hlc,←he]
theorem RW.load{T:TypeId}{b o k o':Nat}{cs:List Value}{v:Value}(hl:look P n ops l σ=some (κ,semV (Instr.loadAt T (.pointer (some ⟨b,o',none⟩))),d,r))(hc:Cells w b o cs)(hk:o'=o+k)(he:loadE P T cs k=some v)
 (h:RW P ops n ds K r (putO d v σ) w):RW P ops n ds K l σ w:=
 RW.readS hl (fun _ hE=>semV_run (loadAt_run (hc.ext hE) hk he)) h
theorem setRow_put{g:Nat}{c c':Array Value}{T:TypeId}{fz:Nat×Nat}(hg:w.heap[g]?=some (.cells c T fz)):w.setRow g c'={w with heap:=w.heap.setIfInBounds g (.cells c' T fz)}:=by
 unfold World.setRow
 congr 1
 apply Array.ext_getElem?
 intro j
 rw[Array.getElem?_modify,Array.getElem?_setIfInBounds]
 have hlt:g<w.heap.size:=(Array.getElem?_eq_some_iff.1 hg).1
 by_cases hj:g = j
 · subst hj
   rw[if_pos rfl,if_pos rfl,hg,if_pos hlt]
   rfl
 ·rw[if_neg hj,if_neg hj]
theorem storeAt_run{T T':TypeId}{b k:Nat}{c c':Array Value}{v:Value}{i:TypeInfo}(hg:w.heap[b]?=some (.cells c T' (0,0)))(hi:P.info? T=some i)(hs:v.cells.size=i.size)(h1:v.cells.toList.all (·.oneCell')=true)
 (hfit:k+v.cells.size≤c.size)(hc:(c.toList.take k++v.cells.toList++c.toList.drop (k+v.cells.size)).toArray=c'):
 (Instr.storeAt T (.pointer (some ⟨b,k,none⟩)) v).run P w=.ok () {w with heap:=w.heap.setIfInBounds b (.cells c' T' (0,0))}:=by
 have hst:=run_storeCells_at P b k T' v.cells.toList 0 c w hg (by simpa using hfit) (fun x hx=>List.all_eq_true.1 h1 x hx)
 simp only[Nat.add_zero,Array.length_toList]at hst
 rw[hc,setRow_put hg]at hst
 simp[Instr.storeAt,Instr.sureAddr,storeVar,sizeOf,typeInfo,hi,hs,hst]
def storeE(P:Program)(T:TypeId)(k:Nat)(v:Value)(c:Array Value):Option (Array Value):=
 match P.info? T with
 |none=>none
 |some i=>cond (Nat.beq v.cells.toList.length i.size&&v.cells.toList.all (·.oneCell')&&Nat.ble (k+v.cells.toList.length) c.toList.length)
  (some (c.toList.take k++v.cells.toList++c.toList.drop (k+v.cells.toList.length)).toArray) none
theorem RW.store{w0:World}{S:Nat→Prop}{O:List Nat}{M M':Heap}{W:List OwnS}{G:List Fact}{T T':TypeId}{b k:Nat}{c c':Array Value}{v:Value}(hl:look P n ops l σ=some (.seq,semU (Instr.storeAt T (.pointer (some ⟨b,k,none⟩)) v),d,r))
 (H:Hp w0 S O M W G w)(i:Nat)(hm:M[i]?=some (b,.cells c T' (0,0)))(hs:storeE P T k v c=some c')(hM:M.set i (b,.cells c' T' (0,0))=M')
 (h:∀w',Hp w0 S O M' W G w'→RW P ops n ds K r (putO d undef σ) w'):RW P ops n ds K l σ w:=by
 subst hM
 have hg:=(H.own _ (List.mem_of_getElem? hm)).1
 unfold storeE at hs
 cases hi:P.info? T with
 |none=>rw[hi]at hs;cases hs
 |some ti=>
  rw[hi]at hs
  simp only at hs
  cases hb:Nat.beq v.cells.toList.length ti.size&&v.cells.toList.all (·.oneCell')&&Nat.ble (k+v.cells.toList.length) c.toList.length with
  |false=>rw[hb]at hs;cases hs
  |true=>
   rw[hb]at hs
   simp only[cond_true,Option.some.injEq]at hs
   simp only[Bool.and_eq_true]at hb
   have a:=Nat.eq_of_beq_eq_true hb.1.1
   have e:=Nat.le_of_ble_eq_true hb.2
   simp only[Array.length_toList]at a e hs
   exact RW.actU hl (semU_run (storeAt_run hg hi a hb.1.2 e hs)) (h _ (H.put i hm _))
def sliceE(P:Program)(T:TypeId):Option (TypeId×Nat):=match P.underlying T with
 |some (.slice e)=>(P.info? e).map fun i=>(e,i.size)
 |_=>none
theorem sliceE_spec{T e:TypeId}{m:Nat}(h:sliceE P T=some (e,m)):P.underlying T=some (.slice e)∧∃i,P.info? e=some i∧i.size=m := by
 unfold sliceE at h
 split at h
 · rename_i e' hu
   cases hi:P.info? e' with
   |none=>rw[hi]at h;cases h
   |some i=>
    rw[hi]at h
    simp only[Option.map_some,Option.some.injEq,Prod.mk.injEq]at h
    obtain⟨rfl,rfl⟩:=h
    exact⟨hu,i,hi,rfl⟩
 ·cases h
theorem indexAt_run{T e:TypeId}{m:Nat}(hT:sliceE P T=some (e,m)){b o len cap:Nat}{ik:IntKind}{k:Nat}(hk:k<len):
 (Instr.indexAt T (.slice (some ⟨b,o,none⟩) len cap) (.int ik (k:Int))).run P w=.ok (.pointer (some ⟨b,o+k*m,none⟩)) w:=by
 obtain⟨hu,i,hi,hm⟩:=sliceE_spec hT
 have a:¬len≤k:=by omega
 simp[Instr.indexAt,asIntOf,run_underlying hu,sizeOf,typeInfo,hi,hm,a,addr_lit]
theorem RW.index{w0:World}{S:Nat→Prop}{O:List Nat}{M:Heap}{W:List OwnS}{G:List Fact}{α:Type}{sh:Shape α}{xs:List α}{x:α}{T e:TypeId}{a:Option Addr}{len cap:Nat}{ik:IntKind}{ix:Int}
 (hl:look P n ops l σ=some (κ,semV (Instr.indexAt T (.slice a len cap) (.int ik ix)),d,r))(hT:sliceE P T=some (e,sh.size))(H:Hp w0 S O M W G w)(g:Nat)(hg:G[g]?=some (Rp sh.slice [.slice a len cap] xs))
 (k:Nat)(hk:ix=(k:Int))(hx:xs[k]?=some x)
 (h:∀b o es,sh.rep (Av S w0 O (idsOf M W)) w es x→Hp w0 S O M W (Fc b o es::G) w→RW P ops n ds K r (putO d (.pointer (some ⟨b,o,none⟩)) σ) w):RW P ops n ds K l σ w:=by
 subst hk
 obtain⟨rfl,_,_,hE⟩:=Shape.elems_of (H.rp g hg)
 obtain⟨b,o,es,rfl,hS,hc,hr⟩:=hE k x hx
 have hlt:k<xs.length:=(List.getElem?_eq_some_iff.1 hx).1
 refine RW.readS hl (fun w' _=>semV_run (indexAt_run hT hlt)) (h b (o+k*sh.size) es hr (H.add ⟨?_,hS,hc⟩))
 rw[sh.len hr];exact sh.pos
def lookP(P:Program)(n:Nat)(ops:Array Oper)(l:List (Nat×Kd))(σ:Env):Option (Kd×Value×Option Tmp×List (Nat×Kd)):=
 match look P n ops l σ with
 |some (κ,s,d,r)=>match pureN P s with
  |some (.value v)=>some (κ,v,d,r)
  |_=>none
 |none=>none
theorem RW.pv{v v':Value}(hl:lookP P n ops l σ=some (κ,v,d,r))(hv:v=v')(h:RW P ops n ds K r (putO d v' σ) w):RW P ops n ds K l σ w:=by
 subst hv
 unfold lookP at hl
 cases hlk:look P n ops l σ with
 |none=>rw[hlk]at hl;cases hl
 |some x=>
  obtain⟨κ',s,d',r'⟩:=x
  rw[hlk]at hl
  simp only at hl
  cases hp:pureN P s with
  |none=>rw[hp]at hl;cases hl
  |some y=>
   rw[hp]at hl
   cases y<;>simp only[reduceCtorEq,Option.some.injEq,Prod.mk.injEq]at hl
   obtain⟨rfl,rfl,rfl,rfl⟩:=hl
   exact RW.readS hlk (fun w' _=>pureN_run hp w') h
theorem wrap64_id{x:Int}(h:-9223372036854775808≤x∧x≤9223372036854775807):Value.int .i64 (IntKind.i64.wrap x)=.int .i64 x:=by
 rw[IntKind.wrap_i64];congr 1;omega
theorem RW.wr64{t:Int}(hl:lookP P n ops l σ=some (κ,.int .i64 (IntKind.i64.wrap t),d,r))(hb:-9223372036854775808≤t∧t≤9223372036854775807)(h:RW P ops n ds K r (putO d (.int .i64 t) σ) w):RW P ops n ds K l σ w:=
 RW.pv hl (wrap64_id hb) h
theorem wr_i64{x:Int}(h:-9223372036854775808≤x∧x≤9223372036854775807):Value.int .i64 (IntKind.i64.wrap x)=.int .i64 x:=wrap64_id h
theorem quo_i64{x n:Int}(hn:0<n)(h:0≤x∧x≤9223372036854775807):Value.int .i64 (IntKind.i64.wrap (x.tdiv n))=.int .i64 (x/n):=by
 rw[Int.tdiv_eq_ediv_of_nonneg h.1]
 have a:0≤x/n:=Int.ediv_nonneg h.1 (by omega)
 have b:x/n≤x:=Int.ediv_le_self _ h.1
 exact wr_i64 (by omega)
theorem wr_u32{x:Int}(h:0≤x∧x≤4294967295):Value.int .u32 (IntKind.u32.wrap x)=.int .u32 x:=by
 have e:IntKind.u32.wrap x=x:=by
  simp[IntKind.wrap,IntKind.bits,IntKind.signed]
  omega
 rw[e]
theorem wr_u8{x:Int}(h:0≤x∧x≤255):Value.int .u8 (IntKind.u8.wrap x)=.int .u8 x:=by
 have e:IntKind.u8.wrap x=x:=by
  simp[IntKind.wrap,IntKind.bits,IntKind.signed]
  omega
 rw[e]
def rvS(tmps:Array Value):ResultVar→Sem Value
 |.tmp t=>pure (tmps.getD t undef)
 |.cell a t=>do loadVar t (←asAddr (tmps.getD a undef))
theorem results_eq(fn:Func)(tmps:Array Value):results fn tmps=(do
 let vs←fn.results.mapM (rvS tmps)
 pure (if h:vs.size=1 then vs[0]else .tuple vs)):=by
 unfold results
 congr 1
def RV(P:Program)(n:Nat)(ds:List Deferred)(σ:Env)(w:World)(x:ResultVar)(v:Value):Prop:=∀a,Fits n σ ds a→(rvS a.tmps x).run P w=.ok v w
theorem RV.tmp{t:Nat}{v:Value}(h:find σ t=some v):RV P n ds σ w (.tmp t) v:=fun a ha=>by
 have:=ha.vals t v h
 simp[rvS,this]
theorem RV.cell{c T b o k o':Nat}{cs:List Value}{v:Value}(h:find σ c=some (.pointer (some ⟨b,o',none⟩)))(hc:Cells w b o cs)(hk:o'=o+k)(he:loadE P T cs k=some v):RV P n ds σ w (.cell c T) v:=fun a ha=>by
 have h1:=ha.vals c _ h
 have h2:=loadAt_run (P:=P) hc hk he
 simp only[Instr.loadAt,Instr.sureAddr,Sem.run_bind,Sem.run_pure,Result.andThen_ok]at h2
 simp[rvS,h1,asAddr,h2]
theorem RV.res1{fn:Func}{x:ResultVar}{v:Value}(hf:fn.results=#[x])(h:RV P n ds σ w x v):∀a,Fits n σ ds a→(results fn a.tmps).run P w=.ok v w:=fun a ha=>by
 have:=h a ha
 rw[results_eq,hf]
 simp[this]
theorem RV.res2{fn:Func}{x y:ResultVar}{v u:Value}(hf:fn.results=#[x,y])(h:RV P n ds σ w x v)(k:RV P n ds σ w y u):∀a,Fits n σ ds a→(results fn a.tmps).run P w=.ok (.tuple #[v,u]) w:=fun a ha=>by
 have h1:=h a ha
 have h2:=k a ha
 rw[results_eq,hf]
 simp[h1,h2]
theorem RV.res3{fn:Func}{x y z:ResultVar}{v u t:Value}(hf:fn.results=#[x,y,z])(h:RV P n ds σ w x v)(k:RV P n ds σ w y u)(j:RV P n ds σ w z t):∀a,Fits n σ ds a→(results fn a.tmps).run P w=.ok (.tuple #[v,u,t]) w:=fun a ha=>by
 have h1:=h a ha
 have h2:=k a ha
 have h3:=j a ha
 rw[results_eq,hf]
 simp[h1,h2,h3]
end
end Go.BX

/-
 THE ENGINE's SLICES: literals handed on, append, slices of slices.
 No condition.
-/
namespace Go.BX
open Go.RowKit(Below)
theorem drop_take_append{α:Type _}{l r:List α}{i n:Nat}(h:i+n≤l.length):((l++r).drop i).take n=(l.drop i).take n:=by
 rw[List.drop_append_of_le_length (by omega),List.take_append_of_le_length (by simp;omega)]
theorem elems_flat{α:Type}{sh:Shape α}{S:Nat→Prop}{w:World}{a:Option Addr}{xs:List α}(h:Shape.Elems sh S w a xs)(hne:xs≠[]):
 ∃b o news,a=some ⟨b,o,none⟩∧S b∧news.length=xs.length*sh.size∧Cells w b o news∧(∀v∈news,v.oneCell'=true)∧∀i x,xs[i]?=some x→sh.rep S w ((news.drop (i*sh.size)).take sh.size) x:=by
 obtain⟨g,xs',rfl⟩:=List.exists_cons_of_ne_nil hne
 obtain⟨b,o,_,rfl,hS,_,_⟩:=h 0 g rfl
 generalize g::xs'=xs at*
 have all:∀n,n≤xs.length→∃news,news.length=n*sh.size∧Cells w b o news∧(∀v∈news,v.oneCell'=true)∧∀i x,i<n→xs[i]?=some x→sh.rep S w ((news.drop (i*sh.size)).take sh.size) x:=by
  intro n
  induction n with
  |zero=>exact fun _=>⟨[],by simp,fun j v hj=>(by simp at hj),fun v hv=>(by cases hv),fun i x hi=>(by omega)⟩
  |succ n ih=>
   intro hn
   obtain⟨news,c,d,e,f⟩:=ih (by omega)
   obtain⟨b',o',es,he,_,hc,hr⟩:=h n xs[n] (List.getElem?_eq_getElem (by omega))
   simp only[Option.some.injEq,Addr.mk.injEq,and_true]at he
   obtain⟨rfl,rfl⟩:=he
   have hl:= sh.len hr
   refine⟨news ++ es, by rw[List.length_append, c, hl, Nat.succ_mul], fun j v hj =>?_, fun v hv =>?_, fun i x hi hx =>?_⟩
   · rcases Nat.lt_or_ge j news.length with hlt | hge
     · rw[List.getElem?_append_left hlt]at hj; exact d j v hj
     · rw[List.getElem?_append_right hge]at hj
       have := hc _ v hj
       rw[c]at this
       rw[show o + n * sh.size + (j - n * sh.size) = o + j by omega]at this
       exact this
   · rcases List.mem_append.1 hv with hv | hv
     · exact e v hv
     · exact sh.ones hr v hv
   · rcases Nat.lt_or_ge i n with hlt | hge
     · have hle : i * sh.size + sh.size ≤ news.length := by
        rw[c, ← Nat.succ_mul]; exact Nat.mul_le_mul_right _ hlt
       rw[drop_take_append hle]
       exact f i x hlt hx
     · obtain rfl : i = n := by omega
       rw[List.drop_append_of_le_length (by omega), List.drop_of_length_le (l := news) (by omega), List.nil_append, ← hl, List.take_length]
       rw[List.getElem?_eq_getElem (by omega)]at hx
       simp only[Option.some.injEq]at hx
       subst hx
       exact hr
 obtain⟨news,c,d,e,f⟩:=all xs.length (Nat.le_refl _)
 exact⟨b,o,news,rfl,hS,c,d,e,fun i x hx=>f i x (List.getElem?_eq_some_iff.1 hx).1 hx⟩
theorem elems_of_flat{α:Type}{sh:Shape α}{S:Nat→Prop}{w:World}{b o:Nat}{news:List Value}{xs:List α}(hS:S b)(_hl:xs.length*sh.size≤news.length)(hc:Cells w b o news)
 (hr:∀i x,xs[i]?=some x→sh.rep S w ((news.drop (i*sh.size)).take sh.size) x):Shape.Elems sh S w (some ⟨b,o,none⟩) xs:=by
 intro i x hx
 have hi:=(List.getElem?_eq_some_iff.1 hx).1
 refine⟨b,o,_,rfl,hS,fun j v hj=>?_, hr i x hx⟩
 rw[List.getElem?_take]at hj
 split at hj
 · rw[List.getElem?_drop]at hj
   rw[Nat.add_assoc]; exact hc _ v hj
 · cases hj
section
variable{w0 w w':World}{S:Nat→Prop}{O:List Nat}{M:Heap}{W:List OwnS}{G:List Fact}
theorem mem_erase_ne{α:Type _}{l:List α}{i:Nat}{y:α}(h:y∈l.eraseIdx i):∃j,j≠i∧l[j]?=some y:=by
 obtain⟨j,hj,hy⟩:=List.mem_iff_getElem.1 h
 rw[List.getElem_eraseIdx]at hy
 have hlt:=hj
 rw[List.length_eraseIdx]at hlt
 split at hy
 · rename_i hji
   exact⟨j, by omega, by rw[List.getElem?_eq_getElem (by split at hlt<;>omega), hy]⟩
 · rename_i hji
   exact⟨j +1,by omega,by rw[List.getElem?_eq_getElem (by split at hlt<;>omega),hy]⟩
theorem Hp.freeze(H:Hp w0 S O M W G w){b:Nat}{c:Array Value}{T:TypeId}{fz:Nat×Nat}(i:Nat)(hm:M[i]?=some (b,.cells c T fz)){α:Type}(sh:Shape α)(xs:List α)(cap:Nat)
 (hcap:xs.length≤cap∧cap≤maxLen)(hl:xs.length*sh.size≤c.toList.length)
 (hr:∀j x,xs[j]?=some x→sh.rep (Av S w0 O (idsOf M W)) w ((c.toList.drop (j*sh.size)).take sh.size) x):
 Hp w0 S O (M.eraseIdx i) W (Rp sh.slice [.slice (some ⟨b,0,none⟩) xs.length cap] xs::G) w:=by
 have H':=H.drop (List.eraseIdx_sublist M i) (List.Sublist.refl W)
 obtain⟨a,d⟩:=own_ne H hm
 have hb:=H.own _ (List.mem_of_getElem? hm)
 have hmono:∀k,Av S w0 O (idsOf M W) k→Av S w0 O (idsOf (M.eraseIdx i) W) k:=fun k hk=>⟨hk.1,fun hid=>hk.2 ((List.Sublist.append ((List.eraseIdx_sublist M i).map _) (List.Sublist.refl _)).subset hid)⟩
 refine H'.add ⟨_,cap,rfl,hcap.1,hcap.2,elems_of_flat ⟨.inr hb.2,fun hid=>?_⟩ hl (Cells.of_block hb.1) fun j x hx=>sh.step (hr j x hx) fun k hk _=>⟨hmono k hk,rfl⟩⟩
 rcases List.mem_append.1 hid with hid | hid
 · obtain⟨p, hp, he⟩:= List.mem_map.1 hid
   obtain⟨j, hj, hp⟩:= mem_erase_ne hp
   exact a p j hj hp he
 · obtain⟨e, ho, hk⟩:= List.mem_flatMap.1 hid
   exact d e ho hk
theorem ids_eraseW{M:Heap}{W:List OwnS}(i:Nat):(idsOf M (W.eraseIdx i)).Sublist (idsOf M W):=List.Sublist.append (List.Sublist.refl _) (sublist_flatMap _ (List.eraseIdx_sublist W i))
theorem ownW_ne(H:Hp w0 S O M W G w){i:Nat}{o:OwnS}(h:W[i]?=some o){b:Nat}(hb:b∈o.blk):(∀p∈M,p.1≠b)∧∀j o1,j≠i→W[j]?=some o1→ b ∉ o1.blk := by
 have hnd := H.nodup
 constructor
 · intro p hp e
   exact(List.nodup_append.1 hnd).2.2 b (List.mem_map.2 ⟨p, hp, e⟩) b (List.mem_flatMap.2 ⟨o, List.mem_of_getElem? h, hb⟩) rfl
 · intro j o1 hj ho c
   have a := (List.nodup_append.1 hnd).2.1
   have key : ∀ (W : List OwnS)(i j : Nat),i<j→W[i]?=some o→W[j]?=some o1→(W.flatMap (·.blk)).Nodup→b∈o.blk→b∈o1.blk→False:=by
    intro W i j hij hi hj hn d a
    have hW:W=W.take j++o1::W.drop (j+1):=by
     have hjl:=(List.getElem?_eq_some_iff.1 hj)
     rw[←hjl.2,←List.drop_eq_getElem_cons hjl.1,List.take_append_drop]
    rw[hW,List.flatMap_append,List.flatMap_cons]at hn
    have hmi:o∈W.take j:=by
     refine List.mem_of_getElem? (i:=i) ?_
     rw[List.getElem?_take,if_pos hij];exact hi
    exact(List.nodup_append.1 hn).2.2 b (List.mem_flatMap.2 ⟨o,hmi,d⟩) b (List.mem_append_left _ a) rfl
   have f:∀(W:List OwnS)(i j:Nat),i<j→W[i]?=some o1→W[j]?=some o→(W.flatMap (·.blk)).Nodup→b∈o.blk→b∈o1.blk→False:=by
    intro W i j hij hi hj hn d a
    have hW:W=W.take j++o::W.drop (j+1):=by
     have hjl:=(List.getElem?_eq_some_iff.1 hj)
     rw[←hjl.2,←List.drop_eq_getElem_cons hjl.1,List.take_append_drop]
    rw[hW,List.flatMap_append,List.flatMap_cons]at hn
    have hmi:o1∈W.take j:=by
     refine List.mem_of_getElem? (i:=i) ?_
     rw[List.getElem?_take,if_pos hij];exact hi
    exact(List.nodup_append.1 hn).2.2 b (List.mem_flatMap.2 ⟨o1,hmi,a⟩) b (List.mem_append_left _ d) rfl
   rcases Nat.lt_trichotomy i j with hlt|heq|hgt
   ·exact key W i j hlt h ho a hb c
   ·exact hj heq.symm
   ·exact f W j i hgt ho h a hb c
theorem ownsRow_cells{w:World}{e:TypeId}{size:Nat}{b n cap:Nat}{cs:List Value}(h:w.ownsRow 0 e size (.slice (some ⟨b,0,none⟩) n cap) n cs):Cells w b 0 cs:=by
 intro j v hj
 have:=h.cells (g:=b) rfl j v hj
 rw[addr_lit]at this;exact this
theorem Hp.freezeW(H:Hp w0 S O M W G w)(i:Nat){α:Type}{sh:Shape α}{T:TypeId}{v:Value}{xs:List α}(h:W[i]?=some ⟨sh,T,v,xs⟩):
 Hp w0 S O M (W.eraseIdx i) (Rp sh.slice [v] xs::G) w:=by
 have H':=H.drop (List.Sublist.refl M) (List.eraseIdx_sublist W i)
 have hm:=List.mem_of_getElem? h
 obtain⟨⟨cs,a,_,b⟩,c⟩:=H.slc _ hm
 have hmono:∀k,Av S w0 O (idsOf M W) k→Av S w0 O (idsOf M (W.eraseIdx i)) k:=fun k hk=>⟨hk.1,fun hid=>hk.2 ((ids_eraseW i).subset hid)⟩
 refine H'.add ?_
 show sh.slice.rep _ w [v] xs
 simp only at a b
 rcases a.2 with⟨hv,hn⟩|⟨g,cap,cur,hv,_,hh,hnc,hcm, hcs, htk⟩
 · have hx : xs = [] := List.eq_nil_of_length_eq_zero hn
   subst hx
   rw[hv]; exact Shape.slice_nil
 · have hbk : g∈(OwnS.mk sh T v xs).blk:=by simp[OwnS.blk,hv]
   obtain⟨d,f⟩:=ownW_ne H h hbk
   have hcells:Cells w g 0 cs:=ownsRow_cells (e:=T) (size:=sh.size) (by rw[←hv];exact a)
   subst hv
   refine⟨_,cap,rfl,hnc,hcm,elems_of_flat ⟨.inr (c g hbk),fun hid=>?_⟩ (by rw[a.1];exact Nat.le_refl _) hcells fun j x hx=>sh.step (b j x hx) fun k hk _=>⟨hmono k hk, rfl⟩⟩
   rcases List.mem_append.1 hid with hid | hid
   · obtain⟨p, hp, he⟩:= List.mem_map.1 hid
     exact d p hp he
   · obtain⟨l, ho, hk⟩:= List.mem_flatMap.1 hid
     obtain⟨j, hj, ho⟩:= mem_erase_ne ho
     exact f j l hj ho hk
theorem Hp.ownNil(H:Hp w0 S O M W G w){α:Type}(sh:Shape α)(T:TypeId):Hp w0 S O M (⟨sh,T,.slice none 0 0,[]⟩::W) G w:=by
 have hid:idsOf M ((⟨sh,T,.slice none 0 0,[]⟩:OwnS)::W)=idsOf M W:=by simp[idsOf,OwnS.blk]
 refine⟨H.below,H.own,fun o ho=>?_,by rw[hid];exact H.nodup,by rw[hid];exact H.facts⟩
 rw[hid]
 rcases List.mem_cons.1 ho with rfl|ho
 ·exact⟨⟨[],World.ownsRow_nil _ _ _ _,fun v hv=>(by cases hv),fun i x hx=>(by simp at hx)⟩,fun b hb=>(by simp[OwnS.blk]at hb)⟩
 ·exact H.slc o ho
theorem Hp.grow(H:Hp w0 S O M W G w)(i:Nat){α:Type}{sh:Shape α}{T:TypeId}{v v':Value}{xs xs':List α}(h:W[i]?=some ⟨sh,T,v,xs⟩)
 (hg:w.grownBy w' v.ownBlock)(hf:∀k,v'.ownBlock=some k→v.ownBlock=some k∨w.heap.size≤k)
 (hown:∃cs,w'.ownsRow 0 T sh.size v' xs'.length cs∧(∀u∈cs,u.oneCell'=true)∧∀j x,xs'[j]?=some x→sh.rep (Av S w0 O (idsOf M W)) w ((cs.drop (j*sh.size)).take sh.size) x):
 Hp w0 S O M (W.set i ⟨sh,T,v',xs'⟩) G w':=by
 have hm:=List.mem_of_getElem? h
 have hlt:i<W.length:=(List.getElem?_eq_some_iff.1 h).1
 have d:∀b∈(OwnS.mk sh T v xs).blk,b∈idsOf M W:=fun b hb=>List.mem_append_right _ (List.mem_flatMap.2 ⟨_,hm,hb⟩)
 have hc:Chg w (OwnS.mk sh T v xs).blk w':=⟨hg.os,hg.tape,hg.output,hg.size,fun k hk hn=>hg.block k hk fun e=>hn (OwnS.mem_blk.2 e.symm)⟩
 have hids : ∀ b ∈ idsOf M (W.set i ⟨sh, T, v', xs'⟩), b ∈ idsOf M W ∨ w.heap.size ≤ b := by
  intro b hb
  rcases List.mem_append.1 hb with hb | hb
  · exact .inl (List.mem_append_left _ hb)
  · obtain⟨o, ho, hb⟩:= List.mem_flatMap.1 hb
    rcases mem_set_cases ho with rfl |⟨j, hj, ho⟩
    · rcases hf b (OwnS.mem_blk.1 hb)with h' | h'
      · exact .inl (d b (OwnS.mem_blk.2 h'))
      · exact .inr h'
    · exact .inl (List.mem_append_right _ (List.mem_flatMap.2 ⟨o, List.mem_of_getElem? ho, hb⟩))
 have hother : ∀ b, b ∈ (OwnS.mk sh T v' xs').blk → (∀ p ∈ M, p.1 ≠b)∧∀j g,j≠i→W[j]?=some g→b∉g.blk:=by
  intro b hb
  rcases hf b (OwnS.mem_blk.1 hb)with h'|h'
  ·exact ownW_ne H h (OwnS.mem_blk.2 h')
  ·exact⟨fun p hp e=>by have:=(Array.getElem?_eq_some_iff.1 (H.own p hp).1).1; omega, fun j g _ ho f => by
     have := OwnS.blk_lt (H.slc g (List.mem_of_getElem? ho)).1 b f; omega⟩
 have hnd : (idsOf M (W.set i ⟨sh, T, v', xs'⟩)).Nodup := by
  have hn := H.nodup
  refine List.nodup_append.2 ⟨(List.nodup_append.1 hn).1, ?_, fun a ha b hb e =>?_⟩
  · have l := (List.nodup_append.1 hn).2.1
    have hW : W =W.take i++⟨sh,T,v,xs⟩::W.drop (i+1):=by
     have hi:=List.getElem?_eq_some_iff.1 h
     rw[←hi.2,←List.drop_eq_getElem_cons hi.1,List.take_append_drop]
    have hW':W.set i ⟨sh,T,v',xs'⟩=W.take i++⟨sh,T,v',xs'⟩::W.drop (i+1):=by
     rw[List.set_eq_take_append_cons_drop,if_pos hlt]
    rw[hW',List.flatMap_append,List.flatMap_cons]
    rw[hW,List.flatMap_append,List.flatMap_cons]at l
    obtain⟨n,q,r⟩:=List.nodup_append.1 l
    obtain⟨_,s,_⟩:=List.nodup_append.1 q
    have hin:∀b∈(OwnS.mk sh T v' xs').blk,(∀o∈W.take i,b∉o.blk)∧∀o∈W.drop (i+1),b∉o.blk:=fun b hb=>by
     have m:=(hother b hb).2
     refine⟨fun o ho=>?_,fun o ho =>?_⟩
     · obtain⟨j, hj, hjo⟩:= List.mem_iff_getElem.1 ho
       have z : j < i := by simp at hj; omega
       refine m j o (by omega) ?_
       rw[← hjo]
       simp only[List.getElem_take]
       rw[List.getElem?_eq_getElem]
     · obtain⟨j, hj, hjo⟩:= List.mem_iff_getElem.1 ho
       refine m (i + 1 + j) o (by omega) ?_
       rw[← hjo]
       simp only[List.getElem_drop]
       rw[List.getElem?_eq_getElem]
    refine List.nodup_append.2 ⟨n, List.nodup_append.2 ⟨?_, s, fun a ha b hb e =>?_⟩, fun a ha b hb e =>?_⟩
    · unfold OwnS.blk
      split <;> simp
    · subst e
      obtain⟨o, ho, hb⟩:= List.mem_flatMap.1 hb
      exact(hin a ha).2 o ho hb
    · subst e
      obtain⟨o, ho, ha⟩:= List.mem_flatMap.1 ha
      rcases List.mem_append.1 hb with hb | hb
      · exact(hin a hb).1 o ho ha
      · exact r a (List.mem_flatMap.2 ⟨o, ho, ha⟩) a (List.mem_append_right _ hb) rfl
  · subst e
    obtain⟨o, ho, hb⟩:=List.mem_flatMap.1 hb
    obtain⟨p,hp,hpa⟩:=List.mem_map.1 ha
    rcases mem_set_cases ho with rfl|⟨j,hj,ho⟩
    ·exact(hother a hb).1 p hp hpa
    ·exact(List.nodup_append.1 hn).2.2 a ha a (List.mem_flatMap.2 ⟨o,List.mem_of_getElem? ho,hb⟩) rfl
 have hs:∀b,Av S w0 O (idsOf M W) b→b<w.heap.size→Av S w0 O (idsOf M (W.set i ⟨sh,T,v',xs'⟩)) b ∧ w'.heap[b]?= w.heap[b]?:= fun b hb hblt =>
  ⟨⟨hb.1, fun hid => by rcases hids b hid with h' | h'; exact hb.2 h'; omega⟩, hc.block b hblt fun ho => hb.2 (d b ho)⟩
 refine H.chg d hc hids hnd (fun b hb =>.inr fun c hc e => hc.2 (e ▸ d b hb)) (fun p hp =>?_) (fun o ho =>?_)
 · have := H.own p hp
   rw[hc.block p.1 (Array.getElem?_eq_some_iff.1 this.1).1 fun hb => (ownW_ne H h hb).1 p hp rfl]; exact this.1
 · rcases mem_set_cases ho with rfl |⟨j, hj, ho⟩
   · obtain⟨cs, t, l, y⟩:= hown
     exact⟨cs, t, l, fun j x hx => sh.step (y j x hx) hs⟩
   · have hmo := List.mem_of_getElem? ho
     refine OwnS.ok_step (H.slc o hmo).1 (fun b hb => hc.block b (OwnS.blk_lt (H.slc o hmo).1 b hb) fun f => (ownW_ne H h f).2 j o hj ho hb) hs
end
section
variable{P:Program}{n:Nat}{ds:List Deferred}{ops:Array Oper}{K:Env→World→Prop}{l r:List (Nat×Kd)}{σ:Env}{w:World}{κ:Kd}{d:Option Tmp}
variable{w0:World}{S:Nat→Prop}{O:List Nat}{M:Heap}{W:List OwnS}{G:List Fact}
def elemE(P:Program)(T:TypeId):Option (TypeId×Nat×Nat×Bool):=match P.underlying T with
 |some (.slice e)=>match P.info? e with
  |some i=>match i.zero with
   |some z=>some (e,i.size,i.bytes,Nat.beq z.cells.toList.length i.size)
   |none=>none
  |none=>none
 |_=>none
theorem elemE_spec{T e:TypeId}{m by_:Nat}(h:elemE P T=some (e,m,by_,true)):P.underlying T=some (.slice e)∧∃i z,P.info? e=some i∧i.zero=some z∧i.size=m∧i.bytes=by_∧z.cells.size=m:= by
 unfold elemE at h
 split at h
 · rename_i e' hu
   split at h
   · rename_i i hi
     split at h
     · rename_i z hz
       simp only[Option.some.injEq,Prod.mk.injEq]at h
       obtain⟨rfl,rfl,rfl,hb⟩:=h
       exact⟨hu,i,z,hi,hz,rfl,rfl,by simpa using Nat.eq_of_beq_eq_true hb⟩
     ·cases h
   ·cases h
 ·cases h
theorem append_zero_run{T ty e:TypeId}{i:TypeInfo}(hu:P.underlying T=some (.slice e))(hi:P.info? e=some i){a a2:Option Addr}{len cap cap2:Nat}(hc:len≤cap):
 (Builtin.append_ #[T,T] ty #[.slice a len cap,.slice a2 0 cap2]).run P w=.ok (.slice a len cap) w:=by
 have hf:(Builtin.firstCells i.size 0 (.slice a2 0 cap2)).run P w=.ok #[] w:=by
  cases a2<;>simp[Builtin.firstCells,loadCells,loadCellsFrom]
 cases a<;>simp[Builtin.append_,run_underlying hu,sizeOf,typeInfo,hi,Builtin.lenOf,hc,hf,storeCells]
theorem append_own_run{T ty e:TypeId}{m by_:Nat}(hT:elemE P T=some (e,m,by_,true))(hm:0<m){v:Value}{k:Nat}{cs:List Value}(hown:w.ownsRow 0 e m v k cs)
 {b o j c:Nat}{news:List Value}(hl:news.length=j*m)(hc:Cells w b o news)(h1:∀u∈news,u.oneCell'=true)(h63:k+j≤maxLen)(hby:(k+j)*by_≤140737488355328):
 ∃v' w',(Builtin.append_ #[T,T] ty #[v,.slice (some ⟨b,o,none⟩) j c]).run P w=.ok v' w'∧w'.ownsRow 0 e m v' (k+j) (cs++news)∧w.grownBy w' v.ownBlock∧
  (∀g,v'.ownBlock=some g→v.ownBlock=some g∨w.heap.size≤g):=by
 obtain⟨hu,i,z,hi,hz,hs,hb,hzs⟩:=elemE_spec hT
 have hn:∀q u,news[q]?=some u→w.cell? ((⟨b,o,none⟩:Addr).add q)=some u:=fun q u hq=>by rw[addr_lit];exact hc q u hq
 obtain⟨v',w',hr,h,l,_⟩:=run_append_own w 0 T ty e i z m by_ hu hi hz hs hb hzs hm v k cs hown ⟨b,o,none⟩ j c news hl hn h1 h63 hby (Nat.zero_le _)
 refine⟨v',w',hr,h,l,fun g hg=>?_⟩
 rcases hown.2 with⟨rfl,rfl⟩|⟨d,cap,cur,rfl,n,hh,hkc, hcm, hcs, htk⟩
 · have hx : cs = [] := List.eq_nil_of_length_eq_zero (by simpa using hown.1)
   subst hx
   obtain⟨_, _, a, f, _⟩:= run_append_own w w.heap.size T ty e i z m by_ hu hi hz hs hb hzs hm (.slice none 0 0) 0 [] (World.ownsRow_nil _ _ _ _) ⟨b, o, none⟩ j c news hl hn h1 h63 hby (Nat.le_refl _)
   rw[hr]at a
   injection a with e1 e2
   subst e1
   exact .inr (f.lt g hg).1
 · by_cases hroom : k + j ≤ cap
   · have hfit:k*i.size+news.length≤cur.size:=by rw[hl,hs,hcs,← Nat.add_mul]; exact Nat.mul_le_mul_right _ hroom
     have a := run_append_room (P := P) w T ty e i hu hi d k cap cur hh ⟨b, o, none⟩ j c news (by rw[hs]; exact hl) hn h1 hroom hfit
     rw[hr]at a
     injection a with e1 e2
     subst e1
     exact .inl hg
   · have a := run_append_grow (P:=P) w T ty e i z hu hi hz ⟨d,0,none⟩ k cap cs (by rw[hs];exact hown.1) (hown.cells (g:=d) rfl) ⟨b,o,none⟩ j c news (by rw[hs];exact hl) hn (by omega) (by simp only[maxLen]at h63;omega) (by rw[hb];exact growslice_fits (by omega) hby)
     rw[hr]at a
     injection a with e1 e2
     subst e1
     simp only[Value.ownBlock,Option.some.injEq]at hg
     exact .inr (by omega)
theorem ownsRow_form{e:TypeId}{m k:Nat}{v:Value}{cs:List Value}(h:w.ownsRow 0 e m v k cs):∃a c,v=.slice a k c∧k≤c∧c≤maxLen:=by
 rcases h.2 with⟨rfl,rfl⟩|⟨g,cap,cur,rfl,_,_,b,d,_⟩
 ·exact⟨none,0,rfl,Nat.le_refl _,Nat.zero_le _⟩
 ·exact⟨_,cap,rfl,b,d⟩
theorem rep_append{α:Type}{sh:Shape α}{S:Nat→Prop}{w:World}{cs news:List Value}{xs ys:List α}(hl:cs.length=xs.length*sh.size)(hn:news.length=ys.length*sh.size)
 (h1:∀j x,xs[j]?=some x→sh.rep S w ((cs.drop (j*sh.size)).take sh.size) x)(h2:∀j x,ys[j]?=some x→sh.rep S w ((news.drop (j*sh.size)).take sh.size) x):
 ∀j x,(xs++ys)[j]?=some x→sh.rep S w (((cs++news).drop (j*sh.size)).take sh.size) x:=by
 intro j x hx
 have _:=hn
 rcases Nat.lt_or_ge j xs.length with hlt | hge
 · rw[List.getElem?_append_left hlt]at hx
   rw[drop_take_append (by rw[hl, ← Nat.succ_mul]; exact Nat.mul_le_mul_right _ hlt)]
   exact h1 j x hx
 · rw[List.getElem?_append_right hge]at hx
   rw[List.drop_append, List.drop_of_length_le (l := cs) (by rw[hl];exact Nat.mul_le_mul_right _ hge),List.nil_append,hl,←Nat.sub_mul]
   exact h2 _ x hx
theorem RW.appendW{T ty e:TypeId}{m by_:Nat}{α:Type}{sh:Shape α}{v:Value}{a2:Option Addr}{l2 c2:Nat}{xs ys zs:List α}(hl:look P n ops l σ=some (.seq,semV (Builtin.append_ #[T,T] ty #[v,.slice a2 l2 c2]),d,r))
 (hT:elemE P T=some (e,m,by_,true))(hm:m=sh.size)(H:Hp w0 S O M W G w)(i:Nat)(hi:W[i]?=some ⟨sh,e,v,xs⟩)(g:Nat)(hg:G[g]?=some (Rp sh.slice [.slice a2 l2 c2] ys))
 (hz:xs++ys=zs)(hby:zs.length*by_≤140737488355328∧zs.length≤9223372036854775807)
 (h:∀a c w',Hp w0 S O M (W.set i ⟨sh,e,.slice a zs.length c,zs⟩) G w'→zs.length≤c→RW P ops n ds K r (putO d (.slice a zs.length c) σ) w'):RW P ops n ds K l σ w:=by
 subst hm
 have hmem:=List.mem_of_getElem? hi
 obtain⟨⟨cs,f,q,p⟩,_⟩:=H.slc _ hmem
 simp only at f p
 obtain⟨rfl,hyc,hycm,hE⟩:=Shape.elems_of (H.rp g hg)
 obtain⟨hu,ti,z,hti,_,hts,_,_⟩:=elemE_spec hT
 obtain⟨av,cv,hv,hkc,hcm⟩:=ownsRow_form f
 by_cases hy:ys=[]
 · subst hy
   simp only[List.append_nil]at hz
   subst hz
   subst hv
   refine RW.actV hl (semV_run (append_zero_run hu hti hkc)) (h av cv w ?_ hkc)
   have hset : W.set i ⟨sh, e, .slice av xs.length cv, xs⟩= W := by
    apply List.ext_getElem?
    intro j
    rw[List.getElem?_set]
    split
    · rename_i hij; subst hij; rw[if_pos (List.getElem?_eq_some_iff.1 hi).1, hi]
    · rfl
   rw[hset]; exact H
 · obtain⟨b, o, news, rfl, hS, hnl, hnc, k,hnr⟩:=elems_flat hE hy
   have hlen:zs.length=xs.length+ys.length:=by rw[←hz,List.length_append]
   obtain⟨v',w',hr,hown,hgr,hfr⟩:=append_own_run (ty:=ty) (w:=w) (c:=c2) hT sh.pos f hnl hnc k (by unfold maxLen;omega) (by rw[←hlen];exact hby.1)
   rw[←hlen]at hown
   obtain⟨a',c',hv',hc',_⟩:=ownsRow_form hown
   subst hv'
   refine RW.actV hl (semV_run hr) (h a' c' w' (H.grow i hi hgr hfr ⟨cs ++ news, hown, fun u hu =>?_, ?_⟩) hc')
   · rcases List.mem_append.1 hu with hu | hu
     · exact q u hu
     · exact k u hu
   · subst hz
     exact rep_append f.1 hnl p hnr
theorem append_new_run{T ty e:TypeId}{m by_:Nat}(hT:elemE P T=some (e,m,by_,true)){a0:Option Addr}(ha:a0=none∨∃b0,a0=some ⟨b0,0,none⟩)
 {b o j c:Nat}{news:List Value}(h0:0<j)(hl:news.length=j*m)(hc:Cells w b o news)(h63:j≤9223372036854775807)(hby:j*by_≤140737488355328):
 ∃q cc,(Builtin.append_ #[T,T] ty #[.slice a0 0 0,.slice (some ⟨b,o,none⟩) j c]).run P w=.ok (.slice (some ⟨w.heap.size,0,none⟩) j cc) (w.drew.alloc (.cells (news.toArray++q) e))∧j≤cc∧cc≤maxLen:=by
 obtain⟨hu,i,z,hi,hz,hs,hb,hzs⟩:=elemE_spec hT
 have hn:∀q u,news[q]?=some u→w.cell? ((⟨b,o,none⟩:Addr).add q)=some u:=fun q u hq=>by rw[addr_lit];exact hc q u hq
 rcases ha with rfl|⟨b0,rfl⟩
 ·exact⟨_,_,run_append_nil (P:=P) w T ty e i z hu hi hz ⟨b,o,none⟩ j c news (by rw[hs]; exact hl) hn h0 (by omega) (by rw[hb]; omega), grownCap_ge _ _ _ _, grownCap_le_maxLen _ _ _ _ (by unfold maxLen; omega)⟩
 · have hg := run_append_grow (P:=P) w T ty e i z hu hi hz ⟨b0,0,none⟩ 0 0 [] (by simp) (fun j v hj=>by simp at hj) ⟨b,o,none⟩ j c news (by rw[hs];exact hl) hn (by omega) (by omega)
    (by rw[hb];exact growslice_fits (by omega) (by simpa using hby))
   simp only[Nat.zero_add]at hg
   exact⟨Builtin.zeroCells z.cells (grownCap w j 0 e-j),_,by simpa using hg,grownCap_ge _ _ _ _,grownCap_le_maxLen _ _ _ _ (by unfold maxLen;omega)⟩
theorem RW.appendN{T ty e:TypeId}{m by_:Nat}{α:Type}{sh:Shape α}{a0 a2:Option Addr}{l2 c2:Nat}{ys:List α}(hl:look P n ops l σ=some (κ,semV (Builtin.append_ #[T,T] ty #[.slice a0 0 0,.slice a2 l2 c2]),d,r))(hκ:κ≠.qui)
 (ha:a0=none∨∃b0,a0=some ⟨b0,0,none⟩)(hT:elemE P T=some (e,m,by_,true))(hm:m=sh.size)(H:Hp w0 S O M W G w)(g:Nat)(hg:G[g]?=some (Rp sh.slice [.slice a2 l2 c2] ys))
 (hby:ys.length*by_≤140737488355328)
 (h:∀a c w',Hp w0 S O M W (Rp sh.slice [.slice a ys.length c] ys::G) w'→RW P ops n ds K r (putO d (.slice a ys.length c) σ) w'):RW P ops n ds K l σ w:=by
 subst hm
 have hrp:=H.rp g hg
 obtain⟨rfl,hyc,hycm,hE⟩:=Shape.elems_of hrp
 obtain⟨hu,ti,z,hti,_,hts,_,_⟩:= elemE_spec hT
 by_cases hy : ys = []
 · subst hy
   exact RW.makeS hl hκ (semV_run (append_zero_run hu hti (Nat.le_refl _))) (Ext.refl w) (h a0 0 w (H.add ⟨a0, 0, rfl, Nat.le_refl _, Nat.zero_le _, fun i x hx => by simp at hx⟩))
 · obtain⟨b, o, news, rfl, hS, hnl, hnc, _, hnr⟩:=elems_flat hE hy
   have hpos:0<ys.length:=List.length_pos_iff.2 hy
   obtain⟨q,cc,hr,hcc,hccm⟩:=append_new_run (ty:=ty) (w:=w) (c:=c2) hT ha hpos hnl hnc (by unfold maxLen at hycm;omega) hby
   have he:Ext w (w.drew.alloc (.cells (news.toArray++q) e)):=⟨rfl,rfl,rfl,by simp,fun k hk=>by
    show(w.drew.heap.push _)[k]?=_
    rw[Array.getElem?_push,if_neg (by show¬k=w.heap.size;omega)];rfl⟩
   refine RW.makeS hl hκ (semV_run hr) he (h _ cc _ ((H.ext he).add ⟨_,cc,rfl,hcc,hccm,elems_of_flat (news:=news) ⟨.inr (.inl H.below.size),fun hid=>by have:=(H.ids_lt _ hid).1;omega⟩ (by rw[hnl];exact Nat.le_refl _) ?_ fun i x hx=>sh.step (hnr i x hx) fun k hk hlt=>⟨hk,Below.block he k hlt⟩⟩))
   have hblk:(w.drew.alloc (.cells (news.toArray++q) e)).heap[w.heap.size]?=some (.cells (news.toArray++q) e):=heap_alloc_new w.drew _
   intro j v hj
   refine(Cells.of_block hblk) j v ?_
   simp only[Array.toList_append]
   rw[List.getElem?_append_left (List.getElem?_eq_some_iff.1 hj).1];exact hj
theorem sliceBound_run{k:IntKind}{i y:Nat}{code:BoundsCode}(h:i≤y):(Instr.sliceBound (.int k (i:Int)) y code).run P w=.ok i w:=by
 simp[Instr.sliceBound,asIntOf,h]
def loOk(v:Option Value)(i:Nat):Prop:=(v=none∧i=0)∨∃k,v=some (.int k (i:Int))
def hiOk(v:Option Value)(len i:Nat):Prop:=(v=none∧i=len)∨∃k,v=some (.int k (i:Int))
theorem loOk.nil:loOk none 0:=.inl ⟨rfl,rfl⟩
theorem loOk.mk{k:IntKind}{t:Int}{i:Nat}(h:t=(i:Int)):loOk (some (.int k t)) i:=.inr ⟨k,by rw[h]⟩
theorem hiOk.nil{len:Nat}:hiOk none len len:=.inl ⟨rfl,rfl⟩
theorem hiOk.mk{k:IntKind}{t:Int}{len i:Nat}(h:t=(i:Int)):hiOk (some (.int k t)) len i:=.inr ⟨k,by rw[h]⟩
theorem sliceAt_run{T e:TypeId}{m:Nat}(hT:sliceE P T=some (e,m)){a:Option Addr}{len cap lo hi:Nat}{lv hv:Option Value}(h1:loOk lv lo)(h2:hiOk hv len hi)(hlh:lo≤hi)(hhc:hi≤cap):
 (Instr.sliceAt T (.slice a len cap) lv hv none).run P w=.ok (.slice (if cap=lo then a else a.map (·.add (lo*m))) (hi-lo) (cap-lo)) w:=by
 obtain⟨hu,i,hti,hm⟩:=sliceE_spec hT
 have b:∀(k:IntKind)(code:BoundsCode),(Instr.sliceBound (.int k (hi:Int)) cap code).run P w=.ok hi w:=fun k code=>sliceBound_run hhc
 have c:∀(k:IntKind)(code:BoundsCode),(Instr.sliceBound (.int k (lo:Int)) hi code).run P w=.ok lo w:=fun k code=>sliceBound_run hlh
 rcases h1 with⟨rfl,rfl⟩|⟨k1,rfl⟩<;>rcases h2 with⟨rfl,rfl⟩|⟨d,rfl⟩
 all_goals simp[Instr.sliceAt,Instr.slice,Instr.sliceBounds,run_underlying hu,sizeOf,typeInfo,hti,hm,c,b]
theorem elems_slice{α:Type}{sh:Shape α}{S:Nat→Prop}{a:Option Addr}{xs:List α}{lo hi cap:Nat}(h:Shape.Elems sh S w a xs)(hc:xs.length≤cap):
 Shape.Elems sh S w (if cap=lo then a else a.map (·.add (lo*sh.size))) ((xs.take hi).drop lo):=by
 intro i x hx
 rw[List.getElem?_drop,List.getElem?_take]at hx
 split at hx
 · have hlt := (List.getElem?_eq_some_iff.1 hx).1
   rw[if_neg (by omega)]
   obtain⟨b,o,es,rfl,hS,hcl,hr⟩:=h _ x hx
   refine⟨b,o+lo*sh.size,es,by simp[addr_lit],hS,?_,hr⟩
   rw[Nat.add_mul]at hcl
   rw[Nat.add_assoc];exact hcl
 ·cases hx
theorem RW.slice{T e:TypeId}{α:Type}{sh:Shape α}{a:Option Addr}{len cap:Nat}{xs zs:List α}{lv hv:Option Value}(hl:look P n ops l σ=some (κ,semV (Instr.sliceAt T (.slice a len cap) lv hv none),d,r))
 (hT:sliceE P T=some (e,sh.size))(H:Hp w0 S O M W G w)(g:Nat)(hg:G[g]?=some (Rp sh.slice [.slice a len cap] xs))(lo hi:Nat)(h1:loOk lv lo)(h2:hiOk hv len hi)(hlh:lo≤hi)(hhc:hi≤xs.length)
 (hz:(xs.take hi).drop lo=zs)
 (h:∀a',Hp w0 S O M W (Rp sh.slice [.slice a' zs.length (cap-lo)] zs::G) w→RW P ops n ds K r (putO d (.slice a' zs.length (cap-lo)) σ) w):RW P ops n ds K l σ w:=by
 obtain⟨rfl,hyc,hycm,hE⟩:=Shape.elems_of (H.rp g hg)
 have hlen:hi-lo=zs.length:=by rw[←hz];simp;omega
 have hr:=fun w'=>sliceAt_run (P:=P) (w:=w') hT (a:=a) h1 h2 hlh (show hi≤cap by omega)
 rw[hlen]at hr
 refine RW.readS hl (fun w' _=>semV_run (hr w')) (h _ (H.add ⟨_,cap-lo,rfl,by omega,by omega,?_⟩))
 rw[←hz];exact elems_slice hE hyc
end
end Go.BX

/-
 THE ENGINE's RAW BLOCKS: a slice of the call's own as a block with its cells; copy, slices of it, append of zeros.
 No condition.
-/
namespace Go.BX
open Go.RowKit(Below)
def EsP{α:Type}(sh:Shape α)(S:Nat→Prop)(w:World)(cs:List Value)(xs:List α):Prop:=∀j x,xs[j]?=some x→sh.rep S w ((cs.drop (j*sh.size)).take sh.size) x
def Es{α:Type}(sh:Shape α)(cs:List Value)(xs:List α):Fact:=⟨fun S w=>EsP sh S w cs xs,fun h hs j x hx=>sh.step (h j x hx) hs⟩
theorem EsP.app{α:Type}{sh:Shape α}{S:Nat→Prop}{w:World}{cs ds:List Value}{xs ys:List α}(hl:cs.length=xs.length*sh.size)(h1:EsP sh S w cs xs)(h2:EsP sh S w ds ys):EsP sh S w (cs++ds) (xs++ys):=by
 intro j x hx
 rcases Nat.lt_or_ge j xs.length with hlt | hge
 · rw[List.getElem?_append_left hlt]at hx
   rw[drop_take_append (by rw[hl,←Nat.succ_mul];exact Nat.mul_le_mul_right _ hlt)]
   exact h1 j x hx
 · rw[List.getElem?_append_right hge]at hx
   rw[List.drop_append, List.drop_of_length_le (l :=cs) (by rw[hl];exact Nat.mul_le_mul_right _ hge),List.nil_append,hl,←Nat.sub_mul]
   exact h2 _ x hx
theorem EsP.take{α:Type}{sh:Shape α}{S:Nat→Prop}{w:World}{cs:List Value}{xs:List α}(h:EsP sh S w cs xs)(k:Nat)(hk:k≤xs.length)(hl:xs.length*sh.size≤cs.length):EsP sh S w (cs.take (k*sh.size)) (xs.take k):=by
 intro j x hx
 rw[List.getElem?_take]at hx
 split at hx
 · rename_i hj
   have := h j x hx
   rw[List.drop_take, List.take_take]
   have e:min sh.size (k*sh.size-j*sh.size)=sh.size:=by
    rw[←Nat.sub_mul]
    have:1*sh.size≤(k-j)*sh.size:=Nat.mul_le_mul_right _ (by omega)
    omega
   have _:=hk
   have _:=hl
   rw[e];exact this
 ·cases hx
theorem EsP.drop{α:Type}{sh:Shape α}{S:Nat→Prop}{w:World}{cs:List Value}{xs:List α}(h:EsP sh S w cs xs)(k:Nat):EsP sh S w (cs.drop (k*sh.size)) (xs.drop k):=by
 intro j x hx
 rw[List.getElem?_drop]at hx
 have:=h _ x hx
 rw[List.drop_drop,←Nat.add_mul]
 exact this
theorem EsP.one{α:Type}{sh:Shape α}{S:Nat→Prop}{w:World}{cs:List Value}{x:α}(h:sh.rep S w cs x):EsP sh S w cs [x]:=by
 intro j y hy
 have hj:j=0:=by have:=(List.getElem?_eq_some_iff.1 hy).1;simp at this;exact this
 subst hj
 simp only[List.getElem?_cons_zero,Option.some.injEq]at hy
 subst hy
 simp only[Nat.zero_mul,List.drop_zero]
 rw[←sh.len h,List.take_length];exact h
theorem EsP.nil{α:Type}{sh:Shape α}{S:Nat→Prop}{w:World}{cs:List Value}:EsP sh S w cs ([]:List α):=fun j x hx=>by simp at hx
theorem EsP.cons{α:Type}{sh:Shape α}{S:Nat→Prop}{w:World}{c cs:List Value}{x:α}{xs:List α}(h:sh.rep S w c x)(k:EsP sh S w cs xs):EsP sh S w (c++cs) (x::xs):=by
 have e:=EsP.app (sh:=sh) (xs:=[x]) (by rw[sh.len h];simp) (EsP.one h) k
 exact e
theorem EsP.pre{α:Type}{sh:Shape α}{S:Nat→Prop}{w:World}{cs ds:List Value}{xs:List α}(hl:xs.length*sh.size≤cs.length)(h:EsP sh S w cs xs):EsP sh S w (cs++ds) xs:=by
 intro j x hx
 have hlt:=(List.getElem?_eq_some_iff.1 hx).1
 rw[drop_take_append (by
  have:(j+1)*sh.size≤xs.length*sh.size:=Nat.mul_le_mul_right _ hlt
  rw[Nat.succ_mul]at this;omega)]
 exact h j x hx
section
variable{w0 w w':World}{S:Nat→Prop}{O:List Nat}{M:Heap}{W:List OwnS}{G:List Fact}
theorem Hp.reids(H:Hp w0 S O M W G w){M':Heap}{W':List OwnS}(hid:∀b,b∈idsOf M' W'↔b∈idsOf M W)(hnd:(idsOf M' W').Nodup)(hM:∀p∈M',w.heap[p.1]?=some p.2)
 (hW:∀o∈W',o.ok (Av S w0 O (idsOf M W)) w):Hp w0 S O M' W' G w:=by
 have hs:∀b,Av S w0 O (idsOf M W) b→b<w.heap.size→Av S w0 O (idsOf M' W') b∧w.heap[b]?=w.heap[b]?:=fun b h _=>⟨⟨h.1,fun hi=>h.2 ((hid b).1 hi)⟩,rfl⟩
 have mine:∀b∈idsOf M' W',Mine w0 O b:=fun b hb=>(H.ids_lt b ((hid b).1 hb)).2
 exact⟨H.below,fun p hp=>⟨hM p hp,mine _ (List.mem_append_left _ (List.mem_map.2 ⟨p,hp,rfl⟩))⟩,fun o ho=>⟨OwnS.ok_step (hW o ho) (fun _ _=>rfl) hs,fun b hb=>mine b (List.mem_append_right _ (List.mem_flatMap.2 ⟨o,ho,hb⟩))⟩,hnd,fun F hF=>F.step (H.facts F hF) hs⟩
theorem Hp.toRaw{α:Type}{sh:Shape α}{T:TypeId}{a:Addr}{len cap:Nat}{xs:List α}{W:List OwnS}(H:Hp w0 S O M (⟨sh,T,.slice (some a) len cap,xs⟩::W) G w):
 ∃b c,a=⟨b,0,none⟩∧len=xs.length∧c.size=cap*sh.size∧xs.length≤cap∧cap≤maxLen∧(∀v∈c.toList.take (xs.length*sh.size),v.oneCell'=true)∧
  Hp w0 S O ((b,.cells c T (0,0))::M) W (Es sh c.toList xs::G) w:=by
 obtain⟨⟨cs,d,i,f⟩,_⟩:= H.slc _ (List.mem_cons_self ..)
 simp only at d f
 rcases d.2 with⟨hv, _⟩|⟨g, cap', cur, hv, _, hh, hnc, hcm, hcs, htk⟩
 · cases hv
 · simp only[Value.slice.injEq,Option.some.injEq]at hv
   obtain⟨rfl,rfl,rfl⟩:=hv
   have hid:∀b,b∈idsOf ((g,Obj.cells cur T (0,0))::M) W↔b∈idsOf M (⟨sh,T,.slice (some ⟨g,0,none⟩) xs.length cap,xs⟩::W):=fun b=> by
    simp[idsOf, OwnS.blk]
    constructor
    · rintro(h | h | h)
      · exact .inr (.inl h)
      · exact .inl h
      · exact .inr (.inr h)
    · rintro(h | h|h)
      ·exact .inr (.inl h)
      ·exact .inl h
      ·exact .inr (.inr h)
   have hnd:(idsOf ((g,Obj.cells cur T (0,0))::M) W).Nodup:=by
    have:=H.nodup
    simp only[idsOf,List.flatMap_cons,OwnS.blk,List.map_cons,List.cons_append,List.nil_append]at this⊢
    exact List.perm_middle.nodup_iff.1 this
   have k:=H.reids (M':=(g,Obj.cells cur T (0,0))::M) (W':=W) hid hnd (fun p hp=>by
    rcases List.mem_cons.1 hp with rfl|hp
    ·exact hh
    ·exact(H.own p hp).1) (fun o ho=>(H.slc o (List.mem_cons_of_mem _ ho)).1)
   refine⟨g,cur,rfl,rfl,hcs,hnc,hcm,by rw[htk];exact i,k.add ?_⟩
   show EsP sh _ w cur.toList xs
   intro j x hx
   have hj:=(List.getElem?_eq_some_iff.1 hx).1
   have hr:=sh.step (S':=Av S w0 O (idsOf ((g,Obj.cells cur T (0,0))::M) W)) (w':=w) (f j x hx) fun b hb _=>⟨⟨hb.1,fun hi=>hb.2 ((hid b).1 hi)⟩,rfl⟩
   rw[←htk,List.drop_take,List.take_take]at hr
   have e:min sh.size (xs.length*sh.size-j*sh.size)=sh.size:=by
    rw[←Nat.sub_mul]
    have:1*sh.size≤(xs.length-j)*sh.size:=Nat.mul_le_mul_right _ (by omega)
    omega
   rw[e]at hr;exact hr
theorem Hp.toOwn{α:Type}{sh:Shape α}{T:TypeId}{b cap:Nat}{c:Array Value}{xs:List α}(H:Hp w0 S O ((b,.cells c T (0,0))::M) W G w)(hc:c.size=cap*sh.size)(h1:xs.length≤cap)(h2:cap≤maxLen)
 (h3:∀v∈c.toList.take (xs.length*sh.size),v.oneCell'=true)(hE:EsP sh (Av S w0 O (idsOf ((b,.cells c T (0,0))::M) W)) w c.toList xs):
 Hp w0 S O M (⟨sh,T,.slice (some ⟨b,0,none⟩) xs.length cap,xs⟩::W) G w:=by
 have hid:∀k,k∈idsOf M (⟨sh,T,.slice (some ⟨b,0,none⟩) xs.length cap,xs⟩::W)↔k∈idsOf ((b,Obj.cells c T (0,0))::M) W:=fun k=>by
  simp[idsOf, OwnS.blk]
  constructor
  · rintro(h | h | h)
    · exact .inr (.inl h)
    · exact .inl h
    · exact .inr (.inr h)
  · rintro(h|h|h)
    ·exact .inr (.inl h)
    ·exact .inl h
    ·exact .inr (.inr h)
 have hnd:(idsOf M (⟨sh,T,.slice (some ⟨b,0,none⟩) xs.length cap,xs⟩::W)).Nodup:=by
  have:=H.nodup
  simp only[idsOf,List.flatMap_cons,OwnS.blk,List.map_cons,List.cons_append,List.nil_append]at this⊢
  exact List.perm_middle.nodup_iff.2 this
 have hb:=(H.own _ (List.mem_cons_self ..)).1
 simp only at hb
 refine H.reids hid hnd (fun p hp=>(H.own p (List.mem_cons_of_mem _ hp)).1) (fun o ho=>?_)
 rcases List.mem_cons.1 ho with rfl | ho
 · have hle : xs.length * sh.size ≤ c.toList.length :=by
    have hcl:c.toList.length=cap*sh.size:=by simpa using hc
    rw[hcl];exact Nat.mul_le_mul_right _ h1
   refine⟨c.toList.take (xs.length*sh.size),⟨by simp only[List.length_take];omega,.inr ⟨b,cap,c,rfl,Nat.zero_le _,hb,h1,h2,hc,rfl⟩⟩,h3,fun j x hx=>?_⟩
   have:=(EsP.take hE xs.length (Nat.le_refl _) hle) j x (by rw[List.take_length];exact hx)
   exact this
 ·exact(H.slc o ho).1
end
section
variable{P:Program}{n:Nat}{ds:List Deferred}{ops:Array Oper}{K:Env→World→Prop}{l r:List (Nat×Kd)}{σ:Env}{w:World}{κ:Kd}{d:Option Tmp}
variable{w0:World}{S:Nat→Prop}{O:List Nat}{M:Heap}{W:List OwnS}{G:List Fact}
theorem copy_run{T T2 e ty:TypeId}{m:Nat}(hT:sliceE P T=some (e,m)){b o1 dl dc:Nat}{sb o2 sl sc:Nat}{c:Array Value}{Tb:TypeId}(hb:w.heap[b]?=some (.cells c Tb (0,0)))
 {o so:Nat}{news:List Value}(hn:news.length=min sl dl*m)(hc:Cells w sb so news)(h1:∀v∈news,v.oneCell'=true)(hd:0<min sl dl→o1=o)(hs:0<min sl dl→o2=so)(hfit:o+news.length≤c.size)(hle:o≤c.size):
 (Builtin.copy_ #[T,T2] ty #[.slice (some ⟨b,o1,none⟩) dl dc,.slice (some ⟨sb,o2,none⟩) sl sc]).run P w=
  .ok (goInt (min sl dl:Nat)) {w with heap:=w.heap.setIfInBounds b (.cells (c.toList.take o++news++c.toList.drop (o+news.length)).toArray Tb (0,0))}:=by
 obtain⟨hu,i,hi,hm⟩:=sliceE_spec hT
 have hmin:Nat.min sl dl=min sl dl:=rfl
 by_cases h0: 0 < min sl dl
 · obtain rfl := hd h0
   obtain rfl := hs h0
   have hf : (Builtin.firstCells i.size (min sl dl) (.slice (some ⟨sb, o2, none⟩) sl sc)).run P w=.ok news.toArray w:=
    run_firstCells_some (P:=P) w i.size (min sl dl) ⟨sb,o2,none⟩ sl sc news (by rw[hm];exact hn) (fun j v hj=>by rw[addr_lit];exact hc j v hj)
   have hst:=run_storeCells_at P b o1 Tb news 0 c w hb (by simpa using hfit) h1
   simp only[Nat.add_zero]at hst
   rw[setRow_put hb]at hst
   simp[Builtin.copy_,run_underlying hu, sizeOf, typeInfo, hi, Builtin.lenOf, hmin, hf, hst]
 · have hz : min sl dl = 0:=by omega
   have hnil:news=[]:=List.eq_nil_of_length_eq_zero (by rw[hn,hz];simp)
   subst hnil
   have hsame:({w with heap:=w.heap.setIfInBounds b (.cells (c.toList.take o++[]++c.toList.drop (o+([]:List Value).length)).toArray Tb (0,0))}:World)=w:=by
    have:w.heap.setIfInBounds b (.cells (c.toList.take o++[]++c.toList.drop (o+([]: List Value).length)).toArray Tb (0, 0)) = w.heap := by
     apply Array.ext_getElem?
     intro j
     rw[Array.getElem?_setIfInBounds]
     split
     · rename_i hj; subst hj
       have hlt := (Array.getElem?_eq_some_iff.1 hb).1
       rw[if_pos hlt, hb]
       simp
     · rfl
    rw[this]
   have _:=hle
   rw[hsame]
   simp[Builtin.copy_,run_underlying hu,sizeOf,typeInfo,hi,Builtin.lenOf,hmin,hz,Builtin.firstCells,loadCells,loadCellsFrom,storeCells]
theorem Cells.sub{w:World}{b o:Nat}{cs:List Value}(h:Cells w b o cs)(k j:Nat):Cells w b (o+k) ((cs.drop k).take j):=by
 intro i v hi
 rw[List.getElem?_take]at hi
 split at hi
 · rw[List.getElem?_drop]at hi
   rw[Nat.add_assoc];exact h _ v hi
 ·cases hi
end
end Go.BX

/-
 THE ENGINE's CALLS: a callee is handed blocks and slices of the caller's own, and gives back its own.
 No condition.
-/
namespace Go.BX
open Go.RowKit(Below)
section
variable{w0 w w':World}{S:Nat→Prop}{O:List Nat}{M M1 M1':Heap}{W W1 W1':List OwnS}{G G':List Fact}
theorem ids_app(M1 M:Heap)(W1 W:List OwnS):(idsOf (M1++M) (W1++W)).Perm (idsOf M1 W1++idsOf M W):=by
 unfold idsOf
 rw[List.map_append,List.flatMap_append,List.append_assoc,List.append_assoc]
 refine List.Perm.append_left _ ?_
 rw[←List.append_assoc,←List.append_assoc]
 exact List.Perm.append_right _ List.perm_append_comm
theorem ids_app_mem{b:Nat}:b∈idsOf (M1++M) (W1++W)↔b∈idsOf M1 W1∨b∈idsOf M W:=by
 rw[(ids_app M1 M W1 W).mem_iff,List.mem_append]
theorem Hp.lend(H:Hp w0 S O (M1++M) (W1++W) G w):Hp w (Av S w0 O (idsOf (M1++M) (W1++W))) (idsOf M1 W1) M1 W1 G w:=by
 refine Hp.startM H.facts (fun p hp=>(H.own p (List.mem_append_left _ hp)).1) (fun o ho=>(H.slc o (List.mem_append_left _ ho)).1) ?_ fun b hb hs=>hs.2 (ids_app_mem.2 (.inl hb))
 exact(List.nodup_append.1 ((ids_app M1 M W1 W).nodup_iff.1 H.nodup)).1
theorem Hp.back(H:Hp w0 S O (M1++M) (W1++W) G w)(H':Hp w (Av S w0 O (idsOf (M1++M) (W1++W))) (idsOf M1 W1) M1' W1' G' w'):
 Hp w0 S O (M1'++M) (W1'++W) (G'++G) w':=by
 have hnd:=(ids_app M1 M W1 W).nodup_iff.1 H.nodup
 obtain⟨_,hnr,hdis⟩:=List.nodup_append.1 hnd
 have d:∀b,Mine w (idsOf M1 W1) b→Mine w0 O b:=fun b hb=>by
  rcases hb with hb|hb
  ·exact .inl (Nat.le_trans H.below.size hb)
  ·exact(H.ids_lt b (ids_app_mem.2 (.inl hb))).2
 have ltr:∀b∈idsOf M W,b<w.heap.size:=fun b hb=>(H.ids_lt b (ids_app_mem.2 (.inr hb))).1
 have f:∀b∈idsOf M W,b∉idsOf M1 W1:=fun b hb c=>hdis b c b hb rfl
 have nr1':∀b∈idsOf M W,b∉idsOf M1' W1':=fun b hb c=>by
  rcases(H'.ids_lt b c).2 with h|h
  ·have:=ltr b hb;omega
  ·exact f b hb h
 have same:∀b,b<w.heap.size→b∉idsOf M1 W1→w'.heap[b]?=w.heap[b]?:=fun b hb c=>H'.below.block b hb c
 have avs:∀b,Av (Av S w0 O (idsOf (M1++M) (W1++W))) w (idsOf M1 W1) (idsOf M1' W1') b→Av S w0 O (idsOf (M1'++M) (W1'++W)) b:= fun b hb => by
  obtain⟨hb, hn⟩:= hb
  rcases hb with hb | hb
  · refine⟨hb.1, fun h =>?_⟩
    rcases ids_app_mem.1 h with h | h
    · exact hn h
    · exact hb.2 (ids_app_mem.2 (.inr h))
  · refine⟨.inr (d b hb), fun h =>?_⟩
    rcases ids_app_mem.1 h with h | h
    · exact hn h
    · rcases hb with hb | hb
      · have := ltr b h; omega
      · exact f b h hb
 have avo : ∀ b, Av S w0 O (idsOf (M1 ++M) (W1++W)) b→b<w.heap.size→Av S w0 O (idsOf (M1'++M) (W1'++W)) b∧w'.heap[b]?=w.heap[b]?:=fun b hb hlt => by
  have c : b ∉ idsOf M1 W1 := fun h => hb.2 (ids_app_mem.2 (.inl h))
  refine⟨⟨hb.1, fun h =>?_⟩, same b hlt c⟩
  rcases ids_app_mem.1 h with h | h
  · rcases(H'.ids_lt b h).2 with h | h
    · omega
    · exact c h
  · exact hb.2 (ids_app_mem.2 (.inr h))
 refine⟨?_, fun p hp =>?_, fun o ho =>?_, ?_, fun F hF =>?_⟩
 · have c := H.below
   have g := H'.below
   refine⟨g.os.trans c.os, g.tape.trans c.tape, g.output.trans c.output, Nat.le_trans c.size g.size, fun k hk ho =>?_⟩
   refine(same k (Nat.lt_of_lt_of_le hk c.size) fun h =>?_).trans (c.block k hk ho)
   rcases(H.ids_lt k (ids_app_mem.2 (.inl h))).2 with h | h
   · omega
   · exact ho h
 · rcases List.mem_append.1 hp with hp | hp
   · exact⟨(H'.own p hp).1, d _ (H'.own p hp).2⟩
   · have hi : p.1 ∈ idsOf M W := List.mem_append_left _ (List.mem_map.2 ⟨p, hp, rfl⟩)
     have ho := H.own p (List.mem_append_right _ hp)
     exact⟨(same _ (ltr _ hi) (f _ hi)).trans ho.1, ho.2⟩
 · rcases List.mem_append.1 ho with ho | ho
   · have h := H'.slc o ho
     exact⟨OwnS.ok_step h.1 (fun b _ => rfl) fun b hb _ =>⟨avs b hb, rfl⟩, fun b hb => d b (h.2 b hb)⟩
   · have h := H.slc o (List.mem_append_right _ ho)
     refine⟨OwnS.ok_step h.1 (fun b hb =>?_) fun b hb hlt => avo b hb hlt, h.2⟩
     have hi : b ∈ idsOf M W := List.mem_append_right _ (List.mem_flatMap.2 ⟨o, ho, hb⟩)
     exact same _ (ltr _ hi) (f _ hi)
 · refine(ids_app M1' M W1' W).nodup_iff.2 (List.nodup_append.2 ⟨H'.nodup, hnr, fun a ha b hb e =>?_⟩)
   subst e
   exact nr1' a hb ha
 · rcases List.mem_append.1 hF with hF | hF
   · exact F.step (H'.facts F hF) fun b hb _ =>⟨avs b hb, rfl⟩
   · exact F.step (H.facts F hF) avo
theorem Hp.perms(H:Hp w0 S O M W G w){M':Heap}{W':List OwnS}(hM:M'.Perm M)(hW:W'.Perm W):Hp w0 S O M' W' G w:=by
 have hp:(idsOf M' W').Perm (idsOf M W):=(hM.map _).append (hW.flatMap_right _)
 refine H.reids (fun b=>hp.mem_iff) (hp.nodup_iff.2 H.nodup) (fun p h=>(H.own p (hM.mem_iff.1 h)).1) fun o h=>(H.slc o (hW.mem_iff.1 h)).1
theorem Hp.gat(H:Hp w0 S O M W G w)(k m:Nat):Hp w0 S O ((M.take k++M.drop (k+m))++(M.drop k).take m) W G w:=by
 refine H.perms ?_ (List.Perm.refl _)
 have e:M=M.take k++((M.drop k).take m++M.drop (k+m)):=by rw[←List.drop_drop,List.take_append_drop,List.take_append_drop]
 rw[List.append_assoc]
 exact((List.perm_append_comm).append_left _).trans (List.Perm.of_eq e.symm)
theorem Hp.ung{A B:Heap}(H:Hp w0 S O (A++B) W G w)(k:Nat):Hp w0 S O (A.take k++(B++A.drop k)) W G w:=by
 refine H.perms ?_ (List.Perm.refl _)
 have e:A++B=A.take k++(A.drop k++B):=by rw[←List.append_assoc,List.take_append_drop]
 exact((List.perm_append_comm).append_left _).trans (List.Perm.of_eq e.symm)
theorem Hp.dropM(H:Hp w0 S O M W G w)(i:Nat):Hp w0 S O (M.eraseIdx i) W G w:=H.drop (List.eraseIdx_sublist M i) (List.Sublist.refl _)
theorem Hp.dropW(H:Hp w0 S O M W G w)(i:Nat):Hp w0 S O M (W.eraseIdx i) G w:=H.drop (List.Sublist.refl _) (List.eraseIdx_sublist W i)
end
end Go.BX

/-
 THE ENGINE: regions in which reads may come before or behind writes: what is read is not written in the region.
 No condition.
-/
namespace Go.BX
open Go.RowKit(Below)
section
variable(P:Program)(ops:Array Oper)(n:Nat)(ds:List Deferred)(w1:World)(Bs:List Nat)
def OpH(o:Oper)(κ:Kd)(σ:Env)(w:World)(K:Env→World→Prop):Prop:=
 ∀a,Fits n σ ds a→match κ with
  |.qui=>Chg w1 Bs w∧∃v,YieldsIf P ops (Chg w1 Bs) o v a∧∃σ',Fits n σ' ds (a.put o.dst v)∧K σ' w
  |_=>OW P ops o a w fun a' w'=>Chg w1 Bs w'∧∃σ',Fits n σ' ds a'∧K σ' w'
def RH(K:Env→World→Prop):List (Nat×Kd)→Env→World→Prop
 |[],σ,w=>K σ w
 |(i,κ)::r,σ,w=>∃o,ops[i]?=some o∧OpH P ops n ds w1 Bs o κ σ w (RH K r)
mutual
def RG(K:Env→World→Prop)(pre:List (Nat×Kd)):DTree→Env→World→Prop
 |.leaf l,σ,w=>RH P ops n ds w1 Bs K (pre++l) σ w
 |.node l bs,σ,w=>RH P ops n ds w1 Bs (fun σ' w'=>RGB K bs σ' w') (pre++l) σ w
def RGB(K:Env→World→Prop):DList→Env→World→Prop
 |.nil,_,_=>True
 |.cons i t r,σ,w=>RG K [(i,.seq)] t σ w∧RGB K r σ w
end
end
def canH(ops:Array Oper):List (Nat×Kd)→Array Bool→Option (Array Bool)
 |[],s=>some s
 |(i,.qui)::r,s=>cond ((Region.ready .any ops s).contains i&&Region.free .any ops s i) (canH ops r (s.setIfInBounds i true)) none
 |(i,_)::r,s=>cond (decide (Region.ready .any ops s=[i])) (canH ops r (s.setIfInBounds i true)) none
mutual
def canG(ops:Array Oper):DTree→Nat→Array Bool→Bool
 |.leaf l,f,s=>decide (l.length=f)&&match canH ops l s with
  |some s'=>(Region.ready .any ops s').isEmpty
  |none=>false
 |.node l bs,f,s=>decide (l.length+1≤f)&&match canH ops l s with
  |some s'=>decide (Region.ready .any ops s'=bs.ids)&&!bs.ids.isEmpty&&canGL ops bs (f-l.length-1) s'
  |none=>false
def canGL(ops:Array Oper):DList→Nat→Array Bool→Bool
 |.nil,_,_=>true
 |.cons i t r,f,s=>canG ops t f (s.setIfInBounds i true)&&canGL ops r f s
end
section
variable{P:Program}{ops:Array Oper}{n:Nat}{ds:List Deferred}{w1:World}{Bs:List Nat}
theorem wpAnyH_rows{K:Env→World→Prop}{Q:Exit→Act→World→Prop}(hsel:Region.noSelect ops=true)(hP:∀c a w,¬Q (.panic c) a w){f':Nat}{s':Array Bool}
 (hk:∀a w σ,Fits n σ ds a→K σ w→wpAnyH P .any ops Q (Chg w1 Bs) f' s' a w):
 ∀(l:List (Nat×Kd))(s:Array Bool)(a:Act)(w:World)(σ:Env),canH ops l s=some s'→Fits n σ ds a→RH P ops n ds w1 Bs K l σ w→wpAnyH P .any ops Q (Chg w1 Bs) (l.length+f') s a w
 |[],s,a,w,σ,hB,hf,h=>by
  simp only[canH,Option.some.injEq]at hB
  subst hB
  simp only[List.length_nil,Nat.zero_add]
  exact hk a w σ hf h
 |(i,κ)::r,s,a,w,σ,hB,hf,⟨o,ho,h⟩=>by
  rw[List.length_cons,show r.length+1+f'=r.length+f'+1 by omega]
  have h1:=h a hf
  have seqs:cond (decide (Region.ready .any ops s=[i])) (canH ops r (s.setIfInBounds i true)) none=some s'→
   (OW P ops o a w fun a' w'=>Chg w1 Bs w'∧∃σ',Fits n σ' ds a'∧RH P ops n ds w1 Bs K r σ' w')→wpAnyH P .any ops Q (Chg w1 Bs) (r.length+f'+1) s a w:=fun hB h1=>by
   cases hd:decide (Region.ready .any ops s=[i])with
   |false=>rw[hd]at hB;cases hB
   |true=>
    rw[hd]at hB
    simp only[cond_true]at hB
    refine wpAnyH_all (of_decide_eq_true hd) (by simp) fun j hj=>?_
    obtain rfl:j=i:=by simpa using hj
    exact OW.wpOp ho (OW.mono (fun a' w'⟨hS,σ',hf',hk'⟩=>⟨hS,wpAnyH_rows hsel hP hk r _ a' w' σ' hB hf' hk'⟩) h1)
  cases κ with
  |seq=>exact seqs hB h1
  |chn=>exact seqs hB h1
  |qui=>
   simp only[canH]at hB
   cases hd:((Region.ready .any ops s).contains i&&Region.free .any ops s i)with
   |false=>rw[hd]at hB;cases hB
   |true=>
    rw[hd]at hB
    simp only[cond_true]at hB
    simp only[Bool.and_eq_true]at hd
    obtain⟨hS,v,hy,σ',hf',hk'⟩:=h1
    exact wpAnyH_take ho hsel hd.2 hd.1 (fun c a w hq=>absurd hq (hP c _ w)) hy hS (wpAnyH_rows hsel hP hk r _ _ w σ' hB hf' hk')
mutual
theorem wpAnyH_of_RG{K:Env→World→Prop}{Q:Exit→Act→World→Prop}(hsel:Region.noSelect ops=true)(hP:∀c a w,¬Q (.panic c) a w)(hQ:∀a w σ,Fits n σ ds a→K σ w→Q .normal a w):
 ∀(t:DTree)(pre:List (Nat×Kd))(f:Nat)(s s1:Array Bool)(a:Act)(w:World)(σ:Env),canH ops pre s=some s1→canG ops t f s1=true→Fits n σ ds a→RG P ops n ds w1 Bs K pre t σ w→
 wpAnyH P .any ops Q (Chg w1 Bs) (pre.length+f) s a w
 |.leaf l,pre,f,s,s1,a,w,σ,hp,hB,hf,h=>by
  unfold RG at h
  simp only[canG,Bool.and_eq_true,decide_eq_true_eq]at hB
  obtain⟨hl,hB⟩:=hB
  cases hc:canH ops l s1 with
  |none=>rw[hc]at hB;cases hB
  |some s'=>
   rw[hc]at hB
   simp only[List.isEmpty_iff]at hB
   have:=wpAnyH_rows (Q:=Q) hsel hP (f':=0) (s':=s') (fun a w σ hf hk=>⟨hB,hQ a w σ hf hk⟩) (pre++l) s a w σ (canH_app hp hc) hf h
   rw[List.length_append,hl,Nat.add_zero]at this
   exact this
 |.node l bs,pre,f,s,s1,a,w,σ,hp,hB,hf,h=>by
  unfold RG at h
  simp only[canG,Bool.and_eq_true,decide_eq_true_eq]at hB
  obtain⟨hl,hB⟩:=hB
  cases hc:canH ops l s1 with
  |none=>rw[hc]at hB;cases hB
  |some s'=>
   rw[hc]at hB
   simp only[Bool.and_eq_true,decide_eq_true_eq]at hB
   obtain⟨⟨hr,hne⟩,hB⟩:=hB
   have:=wpAnyH_rows (Q:=Q) hsel hP (f':=f-l.length) (s':=s') (fun a w σ hf hk=>by
    rw[show f-l.length=(f-l.length-1)+1 by omega]
    refine wpAnyH_all hr (by intro e;rw[e]at hne;simp at hne) fun j hj=>?_
    exact wpAnyH_of_RGB hsel hP hQ bs (f-l.length-1) s' a w σ hB hf hk j hj) (pre++l) s a w σ (canH_app hp hc) hf h
   rw[List.length_append,Nat.add_assoc,show l.length+(f-l.length)=f by omega]at this
   exact this
theorem wpAnyH_of_RGB{K:Env→World→Prop}{Q:Exit→Act→World→Prop}(hsel:Region.noSelect ops=true)(hP:∀c a w,¬Q (.panic c) a w)(hQ:∀a w σ,Fits n σ ds a→K σ w→Q .normal a w):
 ∀(bs:DList)(f:Nat)(s:Array Bool)(a:Act)(w:World)(σ:Env),canGL ops bs f s=true→Fits n σ ds a→RGB P ops n ds w1 Bs K bs σ w→
 ∀j∈bs.ids,wpOp P ops Q j (fun a' w'=>Chg w1 Bs w'∧wpAnyH P .any ops Q (Chg w1 Bs) f (s.setIfInBounds j true) a' w') a w
 |.nil,_,_,_,_,_,_,_,_,j,hj=>by simp[DList.ids]at hj
 |.cons i t r,f,s,a,w,σ,hB,hf,h,j,hj=>by
  unfold RGB at h
  simp only[canGL,Bool.and_eq_true]at hB
  simp only[DList.ids,List.mem_cons]at hj
  rcases hj with rfl | hj
  · have h1 := h.1
    cases t with
    | leaf l =>
     unfold RG at h1
     obtain⟨o,ho,h1⟩:=h1
     refine OW.wpOp ho (OW.mono (fun a' w'⟨hS,σ',hf',hk'⟩=>⟨hS,?_⟩) (h1 a hf))
     have:=wpAnyH_of_RG hsel hP hQ (.leaf l) [] f (s.setIfInBounds j true) _ a' w' σ' rfl hB.1 hf' (by unfold RG;exact hk')
     simpa using this
    |node l bs=>
     unfold RG at h1
     obtain⟨o,ho,h1⟩:=h1
     refine OW.wpOp ho (OW.mono (fun a' w'⟨hS,σ',hf',hk'⟩=>⟨hS,?_⟩) (h1 a hf))
     have:=wpAnyH_of_RG hsel hP hQ (.node l bs) [] f (s.setIfInBounds j true) _ a' w' σ' rfl hB.1 hf' (by unfold RG;exact hk')
     simpa using this
  ·exact wpAnyH_of_RGB hsel hP hQ r f s a w σ hB.2 hf h.2 j hj
theorem canH_app{ops:Array Oper}:∀{l l':List (Nat×Kd)}{s s1 s2:Array Bool},canH ops l s=some s1→canH ops l' s1=some s2→canH ops (l++l') s=some s2
 |[],l',s,s1,s2,h,h'=>by
  simp only[canH,Option.some.injEq]at h
  subst h;exact h'
 |(i,κ)::r,l',s,s1,s2,h,h'=>by
  cases κ with
  |qui=>
   simp only[List.cons_append,canH]at h⊢
   cases hd:((Region.ready .any ops s).contains i&&Region.free .any ops s i)with
   |false=>rw[hd]at h;cases h
   |true=>
    rw[hd]at h
    simp only[cond_true]at h⊢
    exact canH_app h h'
  |seq=>
   simp only[List.cons_append,canH]at h⊢
   cases hd:decide (Region.ready .any ops s=[i])with
   |false=>rw[hd]at h;cases h
   |true=>
    rw[hd]at h
    simp only[cond_true]at h⊢
    exact canH_app h h'
  |chn=>
   simp only[List.cons_append,canH]at h⊢
   cases hd:decide (Region.ready .any ops s=[i])with
   |false=>rw[hd]at h;cases h
   |true=>
    rw[hd]at h
    simp only[cond_true]at h⊢
    exact canH_app h h'
end
theorem RG.draw{K:Env→World→Prop}{Q:Exit→Act→World→Prop}(hQ:∀a w σ,Fits n σ ds a→K σ w→Q .normal a w)(hP:∀c a w,¬Q (.panic c) a w)
 {id:Nat}(hm:P.follows .mixedOrders=true)(t:DTree)(hB:(Region.noSelect ops&&canG ops t ops.size (Array.replicate ops.size false))=true){σ:Env}{a:Act}{w:World}(hf:Fits n σ ds a)
 (h:RG P ops n ds {w with drawn:=w.drawn+1} Bs K [] t σ {w with drawn:=w.drawn+1}):(Code.region id ops true).wp P Q a w:=by
 simp only[Bool.and_eq_true]at hB
 refine wp_region_held (S:=Chg {w with drawn:=w.drawn+1} Bs) hm ?_
 have:=wpAnyH_of_RG (Q:=Q) hB.1 hP hQ t [] ops.size (Array.replicate ops.size false) _ a {w with drawn:=w.drawn+1} σ rfl hB.2 hf h
 simpa using this
end
section
variable{P:Program}{f:FuncId}{n:Nat}{σ:Env}{ds:List Deferred}{w w1:World}{Bs:List Nat}{R:Ending→World→Prop}{ops:Array Oper}{K:Env→World→Prop}
theorem WK.drawH1{c:Code}{k:List Item}(Bs:List Nat)(t:DTree)(hm:P.follows .mixedOrders=true)(hc:c=.region (idOf c) (opsOf c) true)(hB:(Region.noSelect (opsOf c)&&canG (opsOf c) t (opsOf c).size (Array.replicate (opsOf c).size false))=true)
 (h:∀w2,w2=({w with drawn:=w.drawn+1}:World)→RG P (opsOf c) n ds w2 Bs (fun σ' w'=>WK P f n k σ' ds w' R) [] t σ w2):WK P f n (.code c::k) σ ds w R:=by
 rw[hc]
 exact WK.code fun a ha=>RG.draw (Bs:=Bs) (fun a w σ hf hk=>⟨σ,hf,hk⟩) (fun c a w h=>h) hm t hB ha (h _ rfl)
theorem RG.leaf'{pre l:List (Nat×Kd)}(l':List (Nat×Kd))(hl:pre++l=l')(h:RH P ops n ds w1 Bs K l' σ w):RG P ops n ds w1 Bs K pre (.leaf l) σ w:=by
 subst hl
 unfold RG
 exact h
theorem RG.node'{pre l:List (Nat×Kd)}{bs:DList}(l':List (Nat×Kd))(hl:pre++l=l')(h:RH P ops n ds w1 Bs (fun σ' w'=>RGB P ops n ds w1 Bs K bs σ' w') l' σ w):RG P ops n ds w1 Bs K pre (.node l bs) σ w:=by
 subst hl
 unfold RG
 exact h
theorem RGB.nil':RGB P ops n ds w1 Bs K .nil σ w:=by
 unfold RGB
 trivial
theorem RGB.cons'{i:Nat}{t:DTree}{r:DList}(h:RG P ops n ds w1 Bs K [(i,.seq)] t σ w)(k:RGB P ops n ds w1 Bs K r σ w):RGB P ops n ds w1 Bs K (.cons i t r) σ w:=by
 unfold RGB
 exact⟨h,k⟩
theorem RH.sub{l:List (Nat×Kd)}{σ':Env}(hl:l≠[])(hs:∀t v,find σ' t=some v→find σ t=some v)(h:RH P ops n ds w1 Bs K l σ' w):RH P ops n ds w1 Bs K l σ w:=by
 cases l with
 |nil=>exact absurd rfl hl
 |cons x r=>
  obtain⟨i,κ⟩:=x
  obtain⟨o,ho,h⟩:=h
  exact⟨o,ho,fun a ha=>h a (ha.sub hs)⟩
theorem RG.sub{pre:List (Nat×Kd)}{t:DTree}{σ':Env}(hp:pre≠[])(hs:∀t v,find σ' t=some v→find σ t=some v)(h:RG P ops n ds w1 Bs K pre t σ' w):RG P ops n ds w1 Bs K pre t σ w:=by
 cases t with
 |leaf l=>
  unfold RG at h⊢
  exact RH.sub (by simp[hp]) hs h
 |node l bs=>
  unfold RG at h⊢
  exact RH.sub (by simp[hp]) hs h
theorem RGB.sub{σ':Env}(hs:∀t v,find σ' t=some v→find σ t=some v):∀{bs:DList},RGB P ops n ds w1 Bs K bs σ' w→RGB P ops n ds w1 Bs K bs σ w
 |.nil,_=>RGB.nil'
 |.cons i t r,h=>by
  unfold RGB at h⊢
  exact⟨RG.sub (by simp) hs h.1,RGB.sub hs h.2⟩
theorem rrunH_spec(hS:Chg w1 Bs w):∀(m:Nat)(l l':List (Nat×Kd))(σ σ':Env),rrun P n ops m l σ=some (l',σ')→RH P ops n ds w1 Bs K l' σ' w→RH P ops n ds w1 Bs K l σ w
 |0,l,l',σ,σ',h,hk=>by simp only[rrun,Option.some.injEq,Prod.mk.injEq]at h;obtain⟨rfl,rfl⟩:=h;exact hk
 |m+1,[],l',σ,σ',h,hk=>by simp[rrun]at h
 |m+1,(i,κ)::r,l',σ,σ',h,hk=>by
  simp only[rrun]at h
  cases ho:ops[i]? with
  |none=>rw[ho]at h;cases h
  |some o=>
   rw[ho]at h
   simp only at h
   cases hr:runOp P n ops o σ with
   |none=>rw[hr]at h;cases h
   |some σ1=>
    rw[hr]at h
    refine⟨o,ho,fun a ha=>?_⟩
    obtain⟨v,hs,hf⟩:=runOp_spec (ds:=ds) hr a ha
    have hk':=rrunH_spec hS m r l' σ1 σ' h hk
    have hy:YieldsIf P ops (Chg w1 Bs) o v a:=by
     rcases hs w with⟨b, _⟩| b
     · refine .inl ⟨b, fun w' _ =>?_⟩
       rcases hs w' with⟨_, c⟩|⟨c, _⟩
       ·exact c w' (Ext.refl w')
       ·rw[b]at c;cases c
     ·exact .inr b
    cases κ with
    |qui=>exact⟨hS,v,hy,σ1,hf,hk'⟩
    |seq=>exact(hs w).ow ⟨hS,σ1,hf,hk'⟩
    |chn=>exact(hs w).ow ⟨hS,σ1,hf,hk'⟩
theorem RH.runP{l:List (Nat×Kd)}(hS:Chg w1 Bs w)(m:Nat)(live:List Nat)(l':List (Nat×Kd))(σ':Env)(h:(rrun P n ops m l σ).map (fun x=>(x.1,pick live x.2))=some (l',σ'))(hl:l'.isEmpty=false)(hk:RH P ops n ds w1 Bs K l' σ' w):RH P ops n ds w1 Bs K l σ w:=by
 cases hr:rrun P n ops m l σ with
 |none=>rw[hr]at h;cases h
 |some x=>
  obtain⟨a,σ1⟩:=x
  rw[hr]at h
  simp only[Option.map_some,Option.some.injEq,Prod.mk.injEq]at h
  obtain⟨rfl,rfl⟩:=h
  exact rrunH_spec hS m l a σ σ1 hr (RH.sub (by intro e;subst e;cases hl) (pick_find σ1 live) hk)
theorem RH.fin{k:List Item}{l:List (Nat×Kd)}(hS:Chg w1 Bs w)(m:Nat)(live:List Nat)(σ':Env)(h:(rrun P n ops m l σ).map (fun x=>(x.1,pick live x.2))=some ([],σ'))(hk:WK P f n k σ' ds w R):
 RH P ops n ds w1 Bs (fun σ' w'=>WK P f n k σ' ds w' R) l σ w:=by
 cases hr:rrun P n ops m l σ with
 |none=>rw[hr]at h;cases h
 |some x=>
  obtain⟨_,σ1⟩:=x
  rw[hr]at h
  simp only[Option.map_some,Option.some.injEq,Prod.mk.injEq]at h
  obtain⟨rfl,rfl⟩:=h
  exact rrunH_spec hS m l [] σ σ1 hr (WK.sub (pick_find σ1 live) hk)
theorem RH.test{l:List (Nat×Kd)}(F:Bool→Env)(b:Bool)(ht:b=true→RH P ops n ds w1 Bs K l (F true) w)(hf:b=false→RH P ops n ds w1 Bs K l (F false) w):RH P ops n ds w1 Bs K l (F b) w:=by
 cases b
 ·exact hf rfl
 ·exact ht rfl
theorem RH.chn{i:Nat}{r:List (Nat×Kd)}(hS:Chg w1 Bs w)(h:RW P ops n ds (fun σ' w'=>Chg w1 Bs w'→RH P ops n ds w1 Bs K r σ' w') [(i,.chn)] σ w):RH P ops n ds w1 Bs K ((i,.seq)::r) σ w:=by
 obtain⟨o,ho,h⟩:=h
 exact⟨o,ho,fun a ha=>OW.mono (fun a' w'⟨he,σ',hf,hk⟩=>⟨hS.ext he,σ',hf,hk (hS.ext he)⟩) (h a ha)⟩
variable{l r:List (Nat×Kd)}{d:Option Tmp}
theorem RH.readS{s:Sem Next}{v:Value}(hl:look P n ops l σ=some (.qui,s,d,r))(hS:Chg w1 Bs w)(hs:∀w',Chg w1 Bs w'→s.run P w'=.ok (.value v) w')(hk:RH P ops n ds w1 Bs K r (putO d v σ) w):RH P ops n ds w1 Bs K l σ w:=by
 obtain⟨i,o,rfl,ho,rfl,hspec⟩:=look_spec (ds:=ds) hl
 refine⟨o,ho,fun a ha=>?_⟩
 obtain⟨hw,he,hf⟩:=hspec a ha
 exact⟨hS,v,.inl ⟨hw,fun w' h'=>by rw[he];exact hs w' h'⟩,putO o.dst v σ,hf v,hk⟩
theorem RH.load{T:TypeId}{b o k o':Nat}{cs:List Value}{v:Value}(hl:look P n ops l σ=some (.qui,semV (Instr.loadAt T (.pointer (some ⟨b,o',none⟩))),d,r))(hS:Chg w1 Bs w)(hc:Cells w1 b o cs)(hb:b∉Bs)(hn:0<cs.length)(hk:o'=o+k)(he:loadE P T cs k=some v)
 (h:RH P ops n ds w1 Bs K r (putO d v σ) w):RH P ops n ds w1 Bs K l σ w:=
 RH.readS hl hS (fun w' h'=>semV_run (loadAt_run (hc.step (h'.block b (hc.lt hn) hb)) hk he)) h
theorem RH.pv{v v':Value}(hl:lookP P n ops l σ=some (.qui,v,d,r))(hS:Chg w1 Bs w)(hv:v=v')(h:RH P ops n ds w1 Bs K r (putO d v' σ) w):RH P ops n ds w1 Bs K l σ w:=by
 subst hv
 unfold lookP at hl
 cases hlk:look P n ops l σ with
 |none=>rw[hlk]at hl;cases hl
 |some x=>
  obtain⟨κ,s,d',r'⟩:=x
  rw[hlk]at hl
  simp only at hl
  cases hp:pureN P s with
  |none=>rw[hp]at hl;cases hl
  |some y=>
   rw[hp]at hl
   cases y with
   |value u=>
    simp only[Option.some.injEq,Prod.mk.injEq]at hl
    obtain⟨rfl,rfl,rfl,rfl⟩:=hl
    exact RH.readS hlk hS (fun w' _=>pureN_run hp w') h
   |_=>simp at hl
theorem RH.index{w0:World}{S:Nat→Prop}{O:List Nat}{M:Heap}{W:List OwnS}{G:List Fact}{α:Type}{sh:Shape α}{xs:List α}{x:α}{T e:TypeId}{a:Option Addr}{len cap:Nat}{ik:IntKind}{ix:Int}
 (hl:look P n ops l σ=some (.qui,semV (Instr.indexAt T (.slice a len cap) (.int ik ix)),d,r))(hS:Chg w1 Bs w)(hT:sliceE P T=some (e,sh.size))(H:Hp w0 S O M W G w)(g:Nat)(hg:G[g]?=some (Rp sh.slice [.slice a len cap] xs))
 (k:Nat)(hk:ix=(k:Int))(hx:xs[k]?=some x)
 (h:∀b o es,sh.rep (Av S w0 O (idsOf M W)) w es x→Hp w0 S O M W (Fc b o es::G) w→RH P ops n ds w1 Bs K r (putO d (.pointer (some ⟨b,o,none⟩)) σ) w):RH P ops n ds w1 Bs K l σ w:=by
 subst hk
 obtain⟨rfl,_,_,hE⟩:=Shape.elems_of (H.rp g hg)
 obtain⟨b,o,es,rfl,hSb,hc,hr⟩:=hE k x hx
 have hlt:k<xs.length:=(List.getElem?_eq_some_iff.1 hx).1
 refine RH.readS hl hS (fun w' _=>semV_run (indexAt_run hT hlt)) (h b (o+k*sh.size) es hr (H.add ⟨?_,hSb,hc⟩))
 rw[sh.len hr];exact sh.pos
end
end Go.BX

/-
 THE ENGINE: what slices.Insert needs: growing by zeros, overlaps, a slice laid open.
 No condition.
-/
namespace Go.BX
open Go.RowKit(Below)
section
variable{w0 w w':World}{S:Nat→Prop}{O:List Nat}{M:Heap}{W:List OwnS}{G:List Fact}
theorem Hp.toRaw1{α:Type}{sh:Shape α}{T:TypeId}{a:Option Addr}{len cap:Nat}{xs:List α}{W:List OwnS}(H:Hp w0 S O M (⟨sh,T,.slice a len cap,xs⟩::W) G w)(hne:0<len):
 ∃b c,a=some ⟨b,0,none⟩∧len=xs.length∧c.size=cap*sh.size∧xs.length≤cap∧cap≤maxLen∧(∀v∈c.toList.take (xs.length*sh.size),v.oneCell'=true)∧
  Hp w0 S O ((b,.cells c T (0,0))::M) W (Es sh c.toList xs::G) w:=by
 cases a with
 |none=>
  exfalso
  obtain⟨cs,d,_⟩:=(H.slc _ (List.mem_cons_self ..)).1
  rcases d.2 with⟨hv,j⟩|⟨b, cap', cur, hv, _⟩
  · simp only[Value.slice.injEq]at hv
    omega
  · simp at hv
 |some a=>
  obtain⟨b,c,rfl,d,e,f,g,h,i⟩:=H.toRaw
  exact⟨b,c,rfl,d,e,f,g,h,i⟩
theorem Hp.es(H:Hp w0 S O M W G w){α:Type}{sh:Shape α}{cs:List Value}{xs:List α}(i:Nat)(h:G[i]?=some (Es sh cs xs)):EsP sh (Av S w0 O (idsOf M W)) w cs xs:=H.fact i h
end
section
variable{P:Program}{n:Nat}{ds:List Deferred}{ops:Array Oper}{K:Env→World→Prop}{l r:List (Nat×Kd)}{σ:Env}{w:World}{κ:Kd}{d:Option Tmp}
variable{w0:World}{S:Nat→Prop}{O:List Nat}{M:Heap}{W:List OwnS}{G:List Fact}
end
end Go.BX

/-
 THE ENGINE's OWN SLICES: their elements read and written, cleared, cut short; seen as facts.
 No condition.
-/
namespace Go.BX
open Go.RowKit(Below)
section
variable{w0 w w':World}{S:Nat→Prop}{O:List Nat}{M:Heap}{W:List OwnS}{G:List Fact}
theorem Hp.view(H:Hp w0 S O M W G w)(i:Nat){α:Type}{sh:Shape α}{T:TypeId}{v:Value}{xs:List α}(h:W[i]?=some ⟨sh,T,v,xs⟩):sh.slice.rep (fun _=>True) w [v] xs:=
 sh.slice.step ((H.freezeW i h).rp 0 rfl) fun _ _ _=>⟨trivial,rfl⟩
theorem Hp.viewM(H:Hp w0 S O M W G w){b:Nat}{c:Array Value}{T:TypeId}{fz:Nat×Nat}(i:Nat)(h:M[i]?=some (b,.cells c T fz))(hc:0<c.toList.length):(Fc b 0 c.toList).p (fun _=>True) w:=
 ⟨hc,trivial,H.cells i h⟩
theorem EsP.at{α:Type}{sh:Shape α}{cs:List Value}{xs:List α}(h:EsP sh S w cs xs){k:Nat}(hk:k<xs.length):sh.rep S w ((cs.drop (k*sh.size)).take sh.size) xs[k]:=h k _ (List.getElem?_eq_getElem hk)
theorem Hp.ownCell{α:Type}{sh:Shape α}{T:TypeId}{a:Option Addr}{len cap:Nat}{xs:List α}(H:Hp w0 S O M (⟨sh,T,.slice a len cap,xs⟩::W) G w)(k:Nat)(hk:k<xs.length)(hl:len=xs.length):
 ∃b es,a=some ⟨b,0,none⟩∧Cells w b (k*sh.size) es∧sh.rep (Av S w0 O (idsOf M (⟨sh,T,.slice a len cap,xs⟩::W))) w es xs[k]:=by
 obtain⟨b,c,rfl,-,hcs,_,_,_,HR⟩:=H.toRaw1 (by omega)
 refine⟨b,_,rfl,?_,sh.step ((HR.es 0 rfl).at hk) fun q hq _=>⟨⟨hq.1,fun hi=>hq.2 ?_⟩, rfl⟩⟩
 · have := (HR.cells 0 rfl).sub (k * sh.size) sh.size
   rwa[Nat.zero_add]at this
 · simp only[idsOf, List.map_cons, List.cons_append, List.mem_cons, List.mem_append,List.flatMap_cons,OwnS.blk]at hi⊢
   simp only[List.not_mem_nil,or_false]at hi
   rcases hi with h|h|h
   ·exact .inr (.inl h)
   ·exact .inl h
   ·exact .inr (.inr (by simpa using h))
theorem Hp.reW{α:Type}{sh:Shape α}{T:TypeId}{v v':Value}{xs ys:List α}(H:Hp w0 S O M (⟨sh,T,v,xs⟩::W) G w)(h:xs=ys)(hv:v=v':=by rfl):Hp w0 S O M (⟨sh,T,v',ys⟩::W) G w:=by
 subst h
 subst hv
 exact H
theorem set_take_drop{α:Type}{xs:List α}{k:Nat}{y:α}(h:k<xs.length):xs.set k y=xs.take k++y::xs.drop (k+1):=by
 rw[List.set_eq_take_append_cons_drop,if_pos h]
theorem EsP.set{α:Type}{sh:Shape α}{C yc:List Value}{xs:List α}{y:α}{k:Nat}(h:EsP sh S w C xs)(hC:xs.length*sh.size≤C.length)(hk:k<xs.length)(hy:sh.rep S w yc y):
 EsP sh S w (C.take (k*sh.size)++yc++C.drop (k*sh.size+yc.length)) (xs.set k y):=by
 have a:(k+1)*sh.size≤xs.length*sh.size:=Nat.mul_le_mul_right _ hk
 rw[Nat.succ_mul]at a
 rw[set_take_drop hk,sh.len hy,←Nat.succ_mul,List.append_assoc]
 refine EsP.app ?_ (EsP.take h k (by omega) hC) (EsP.cons hy (EsP.drop h (k+1)))
 rw[List.length_take,List.length_take,Nat.min_eq_left (by omega),Nat.min_eq_left (by omega)]
theorem ones_set{C yc:List Value}{p q:Nat}(h1:∀v∈C.take q,v.oneCell'=true)(h2:∀v∈yc,v.oneCell'=true)(hp:p+yc.length≤q)(hq:q≤C.length):
 ∀v∈(C.take p++yc++C.drop (p+yc.length)).take q,v.oneCell'=true:=by
 intro v hv
 have hl:(C.take p++yc).length=p+yc.length:=by rw[List.length_append,List.length_take,Nat.min_eq_left (by omega)]
 rw[show q=(C.take p++yc).length+(q-(p+yc.length))by omega,List.take_length_add_append]at hv
 rcases List.mem_append.1 hv with hv | hv
 · rcases List.mem_append.1 hv with hv | hv
   · refine h1 v ?_
     have : C.take p = (C.take q).take p := by rw[List.take_take, Nat.min_eq_left (by omega)]
     rw[this]at hv
     exact List.mem_of_mem_take hv
   · exact h2 v hv
 · refine h1 v ?_
   rw[← List.drop_take]at hv
   exact List.mem_of_mem_drop hv
theorem Hp.putW{α:Type}{sh:Shape α}{T:TypeId}{b len cap k:Nat}{xs:List α}{y:α}{yc:List Value}(H:Hp w0 S O M (⟨sh,T,.slice (some ⟨b,0,none⟩) len cap,xs⟩::W) (Rp sh yc y::G) w)(hk:k<xs.length)(hl:len=xs.length):
 ∃c,w.heap[b]?=some (.cells c T (0,0))∧k*sh.size+yc.length≤c.size∧
  Hp w0 S O M (⟨sh,T,.slice (some ⟨b,0,none⟩) len cap,xs.set k y⟩::W) G {w with heap:=w.heap.setIfInBounds b (.cells (c.toList.take (k*sh.size)++yc++c.toList.drop (k*sh.size+yc.length)).toArray T (0,0))}:=by
 obtain⟨b',c,hb,-,hcs,a,e,f,HR⟩:=H.toRaw1 (by omega)
 simp only[Option.some.injEq,Addr.mk.injEq,and_true]at hb
 subst hb
 have hyl:=sh.len (HR.rp 1 rfl)
 have hcl:c.toList.length=cap*sh.size:=by simpa using hcs
 have d:(k+1)*sh.size≤xs.length*sh.size:=Nat.mul_le_mul_right _ hk
 have g:xs.length*sh.size≤cap*sh.size:=Nat.mul_le_mul_right _ a
 rw[Nat.succ_mul]at d
 have HP:=HR.put 0 rfl (.cells (c.toList.take (k*sh.size)++yc++c.toList.drop (k*sh.size+yc.length)).toArray T (0,0))
 refine⟨c,(HR.own _ (List.mem_cons_self ..)).1,by omega,?_⟩
 have hE:=EsP.set (HP.es 0 rfl) (by omega) hk (HP.rp 1 rfl)
 have hone:=ones_set (p:=k*sh.size) f (sh.ones (HP.rp 1 rfl)) (by omega) (by omega)
 have hlen:(c.toList.take (k*sh.size)++yc++c.toList.drop (k*sh.size+yc.length)).length=cap*sh.size:=by
  simp only[List.length_append,List.length_take,List.length_drop];omega
 subst hl
 have:=Hp.toOwn (sh:=sh) (xs:=xs.set k y) (cap:=cap) (b:=b) (T:=T) (M:=M) (W:=W) HP (by rw[List.size_toArray,hlen]) (by rw[List.length_set];exact a) e (by rw[List.length_set];exact hone) hE
 rw[List.length_set]at this
 exact this.facts_sub fun F hF=>List.mem_cons_of_mem _ (List.mem_cons_of_mem _ hF)
theorem Hp.cutW{α:Type}{sh:Shape α}{T:TypeId}{b cap k:Nat}{c:Array Value}{xs:List α}(H:Hp w0 S O ((b,.cells c T (0,0))::M) W (Es sh c.toList xs::G) w)(hc:c.size=cap*sh.size)(hk:k≤xs.length)(h1:xs.length≤cap)(h2:cap≤maxLen)
 (h3:∀v∈c.toList.take (xs.length*sh.size),v.oneCell'=true)(R:List Value)(hR:R.length+k*sh.size=cap*sh.size):
 Hp w0 S O M (⟨sh,T,.slice (some ⟨b,0,none⟩) k cap,xs.take k⟩::W) G {w with heap:=w.heap.setIfInBounds b (.cells (c.toList.take (k*sh.size)++R).toArray T (0,0))}:=by
 have hcl:c.toList.length=cap*sh.size:=by simpa using hc
 have a:k*sh.size≤xs.length*sh.size:=Nat.mul_le_mul_right _ hk
 have d:xs.length*sh.size≤cap*sh.size:=Nat.mul_le_mul_right _ h1
 have HP:=H.put 0 rfl (.cells (c.toList.take (k*sh.size)++R).toArray T (0,0))
 have htk:(xs.take k).length=k:=by rw[List.length_take];omega
 have hck:(c.toList.take (k*sh.size)).length=k*sh.size:=by rw[List.length_take];omega
 have hE:EsP sh _ _ (c.toList.take (k*sh.size)++R) (xs.take k):=EsP.pre (by rw[htk,hck];exact Nat.le_refl _) (EsP.take (HP.es 0 rfl) k hk (by omega))
 have:=Hp.toOwn (sh:=sh) (xs:=xs.take k) (cap:=cap) (b:=b) (T:=T) (M:=M) (W:=W) HP (by rw[List.size_toArray,List.length_append,hck];omega) (by omega) h2 (fun v hv=>by
  rw[htk,List.take_left' hck]at hv
  refine h3 v ?_
  have e:c.toList.take (k*sh.size)=(c.toList.take (xs.length*sh.size)).take (k*sh.size):=by rw[List.take_take,Nat.min_eq_left a]
  rw[e]at hv
  exact List.mem_of_mem_take hv) hE
 rw[htk]at this
 exact this.facts_sub fun F hF=>List.mem_cons_of_mem _ hF
theorem Hp.cutN{α:Type}{sh:Shape α}{T:TypeId}{a:Option Addr}{len cap:Nat}{xs:List α}(H:Hp w0 S O M (⟨sh,T,.slice a len cap,xs⟩::W) G w)(k:Nat)(hk:k≤xs.length)(hl:len=xs.length)(hpos:0<len):
 Hp w0 S O M (⟨sh,T,.slice a k cap,xs.take k⟩::W) G w:=by
 obtain⟨b,c,rfl,-,hcs,d,f,g,HR⟩:=H.toRaw1 hpos
 have hcl:c.toList.length=cap*sh.size:=by simpa using hcs
 have h:k*sh.size≤xs.length*sh.size:=Nat.mul_le_mul_right _ hk
 have i:xs.length*sh.size≤cap*sh.size:=Nat.mul_le_mul_right _ d
 have:=HR.cutW (k:=k) hcs hk d f g (c.toList.drop (k*sh.size)) (by rw[List.length_drop];omega)
 rw[List.take_append_drop]at this
 have hg:=(HR.own _ (List.mem_cons_self ..)).1
 have e:w.heap.setIfInBounds b (.cells c.toList.toArray T (0,0))=w.heap := by
  apply Array.ext_getElem?
  intro j
  rw[Array.getElem?_setIfInBounds]
  split
  · rename_i hj; subst hj
    rw[if_pos (Array.getElem?_eq_some_iff.1 hg).1, hg]
  · rfl
 rw[e]at this
 exact this
end
section
variable{P:Program}{n:Nat}{ds:List Deferred}{ops:Array Oper}{K:Env→World→Prop}{l r:List (Nat×Kd)}{σ:Env}{w:World}{κ:Kd}{d:Option Tmp}
variable{w0:World}{S:Nat→Prop}{O:List Nat}{M:Heap}{W:List OwnS}{G:List Fact}
theorem RW.indexW{α:Type}{sh:Shape α}{xs:List α}{T e T':TypeId}{m:Nat}{a:Option Addr}{len cap:Nat}{ik:IntKind}{ix:Int}
 (hl:look P n ops l σ=some (κ,semV (Instr.indexAt T (.slice a len cap) (.int ik ix)),d,r))(hT:sliceE P T=some (e,m))(hm:m=sh.size)(H:Hp w0 S O M (⟨sh,T',.slice a len cap,xs⟩::W) G w)
 (k:Nat)(hk:ix=(k:Int))(hx:k<xs.length)(hlen:len=xs.length)
 (h:∀b es,a=some ⟨b,0,none⟩→Cells w b (k*m) es→sh.rep (Av S w0 O (idsOf M (⟨sh,T',.slice a len cap,xs⟩::W))) w es xs[k]→RW P ops n ds K r (putO d (.pointer (some ⟨b,k*m,none⟩)) σ) w):RW P ops n ds K l σ w:=by
 subst hk
 subst hm
 obtain⟨b,es,ha,hc,hr⟩:=H.ownCell k hx hlen
 have c:=h b es ha hc hr
 subst ha
 refine RW.readS hl (fun w' _=>semV_run (indexAt_run hT (by omega))) ?_
 rw[Nat.zero_add];exact c
def storeOk(P:Program)(T:TypeId)(m:Nat)(v:Value):Bool:=match P.info? T with
 |some i=>Nat.beq i.size m&&Nat.beq v.cells.toList.length m
 |none=>false
theorem RW.storeW{α:Type}{sh:Shape α}{xs:List α}{e T':TypeId}{m:Nat}{a:Option Addr}{len cap k b:Nat}{v:Value}
 (hl:look P n ops l σ=some (.seq,semU (Instr.storeAt e (.pointer (some ⟨b,k*m,none⟩)) v),d,r))(hm:m=sh.size)(ho:storeOk P e m v=true)(H:Hp w0 S O M (⟨sh,T',.slice a len cap,xs⟩::W) G w)
 (ha:a=some ⟨b,0,none⟩)(hx:k<xs.length)(hlen:len=xs.length)(y:α)(hy:sh.rep (Av S w0 O (idsOf M (⟨sh,T',.slice a len cap,xs⟩::W))) w v.cells.toList y)
 (h:∀w',Hp w0 S O M (⟨sh,T',.slice a len cap,xs.set k y⟩::W) G w'→RW P ops n ds K r (putO d undef σ) w'):RW P ops n ds K l σ w:=by
 subst hm
 subst ha
 obtain⟨c,hg,hfit,f⟩:=(H.add (F:=Rp sh v.cells.toList y) hy).putW hx hlen
 unfold storeOk at ho
 cases hi:P.info? e with
 |none=>rw[hi]at ho;cases ho
 |some ti=>
  rw[hi]at ho
  simp only[Bool.and_eq_true]at ho
  have i:=Nat.eq_of_beq_eq_true ho.1
  have g:=Nat.eq_of_beq_eq_true ho.2
  simp only[Array.length_toList]at g hfit f
  exact RW.actU hl (semU_run (storeAt_run hg hi (by omega) (List.all_eq_true.2 (sh.ones hy)) hfit rfl)) (h _ f)
end
end Go.BX

/-
 THE ENGINE: unsigned numbers as bit vectors.
 No condition.
-/
namespace Go.BX
theorem bvi{n:Nat}(x:BitVec n):BitVec.ofInt n ((x.toNat:Nat):Int)=x:=by
 rw[BitVec.ofInt_natCast]
 apply BitVec.eq_of_toNat_eq
 rw[BitVec.toNat_ofNat,Nat.mod_eq_of_lt x.isLt]
theorem bv8_bd(x:BitVec 8):0≤((x.toNat:Nat):Int)∧((x.toNat:Nat):Int)≤255:=by
 have:=x.isLt
 omega
theorem wr_bv8(x:BitVec 8):Value.int .u8 (IntKind.u8.wrap ((x.toNat:Nat):Int))=.int .u8 ((x.toNat:Nat):Int):=wr_u8 (bv8_bd x)
theorem wrap_bv8(t:Int):Value.int .u8 (IntKind.u8.wrap t)=.int .u8 (((BitVec.ofInt 8 t).toNat:Nat):Int):=by
 congr 1
 have e:IntKind.u8.wrap t=t%256:=by simp[IntKind.wrap,IntKind.signed,IntKind.bits]
 rw[e,BitVec.toNat_ofInt,Int.toNat_of_nonneg (Int.emod_nonneg _ (by decide))]
 rfl
theorem bv_xor8{a b:Int}{x y:BitVec 8}(hx:BitVec.ofInt 8 a=x)(hy:BitVec.ofInt 8 b=y):Value.int .u8 (IntKind.u8.wrap ((BitVec.ofInt 8 a^^^BitVec.ofInt 8 b).toNat:Nat))=.int .u8 (((x^^^y).toNat:Nat):Int):=by
 rw[hx,hy];exact wr_bv8 _
theorem bv_and8{a b:Int}{x y:BitVec 8}(hx:BitVec.ofInt 8 a=x)(hy:BitVec.ofInt 8 b=y):Value.int .u8 (IntKind.u8.wrap ((BitVec.ofInt 8 a&&&BitVec.ofInt 8 b).toNat:Nat))=.int .u8 (((x&&&y).toNat:Nat):Int):=by
 rw[hx,hy];exact wr_bv8 _
theorem bv_shr8(x:BitVec 8)(j:Nat):Value.int .u8 (((x.toNat:Nat):Int).fdiv (2^j))=.int .u8 (((x>>>j).toNat:Nat):Int):=by
 congr 1
 have e:((2:Int)^j)=((2^j:Nat):Int):=by simp
 rw[e,BitVec.toNat_ushiftRight,Nat.shiftRight_eq_div_pow,Int.fdiv_eq_ediv_of_nonneg _ (Int.natCast_nonneg _),Int.natCast_ediv]
theorem bv_i648(x:BitVec 8)(h:((x.toNat:Nat):Int)≤9223372036854775807):Value.int .i64 (IntKind.i64.wrap ((x.toNat:Nat):Int))=.int .i64 ((x.toNat:Nat):Int):=wr_i64 (by omega)
theorem bv32_bd(x:BitVec 32):0≤((x.toNat:Nat):Int)∧((x.toNat:Nat):Int)≤4294967295:=by
 have:=x.isLt
 omega
theorem wr_bv32(x:BitVec 32):Value.int .u32 (IntKind.u32.wrap ((x.toNat:Nat):Int))=.int .u32 ((x.toNat:Nat):Int):=wr_u32 (bv32_bd x)
theorem wrap_bv32(t:Int):Value.int .u32 (IntKind.u32.wrap t)=.int .u32 (((BitVec.ofInt 32 t).toNat:Nat):Int):=by
 congr 1
 have e:IntKind.u32.wrap t=t%4294967296:=by simp[IntKind.wrap,IntKind.signed,IntKind.bits]
 rw[e,BitVec.toNat_ofInt,Int.toNat_of_nonneg (Int.emod_nonneg _ (by decide))]
 rfl
theorem bv_xor32{a b:Int}{x y:BitVec 32}(hx:BitVec.ofInt 32 a=x)(hy:BitVec.ofInt 32 b=y):Value.int .u32 (IntKind.u32.wrap ((BitVec.ofInt 32 a^^^BitVec.ofInt 32 b).toNat:Nat))=.int .u32 (((x^^^y).toNat:Nat):Int):=by
 rw[hx,hy];exact wr_bv32 _
theorem bv_and32{a b:Int}{x y:BitVec 32}(hx:BitVec.ofInt 32 a=x)(hy:BitVec.ofInt 32 b=y):Value.int .u32 (IntKind.u32.wrap ((BitVec.ofInt 32 a&&&BitVec.ofInt 32 b).toNat:Nat))=.int .u32 (((x&&&y).toNat:Nat):Int):=by
 rw[hx,hy];exact wr_bv32 _
theorem bv_or32{a b:Int}{x y:BitVec 32}(hx:BitVec.ofInt 32 a=x)(hy:BitVec.ofInt 32 b=y):Value.int .u32 (IntKind.u32.wrap ((BitVec.ofInt 32 a|||BitVec.ofInt 32 b).toNat:Nat))=.int .u32 (((x|||y).toNat:Nat):Int):=by
 rw[hx,hy];exact wr_bv32 _
theorem bv_neg32{a:Int}{x:BitVec 32}(hx:BitVec.ofInt 32 a=x):Value.int .u32 (IntKind.u32.wrap (0-a))=.int .u32 (((-x).toNat:Nat):Int):=by
 rw[wrap_bv32,Int.zero_sub,BitVec.ofInt_neg,hx]
theorem bv_not32{a:Int}{x:BitVec 32}(hx:BitVec.ofInt 32 a=x):Value.int .u32 (IntKind.u32.wrap ((BitVec.ofInt 32 4294967295^^^BitVec.ofInt 32 a).toNat:Nat))=.int .u32 (((~~~x).toNat:Nat):Int):=by
 rw[hx]
 have e:BitVec.ofInt 32 4294967295^^^x= ~~~x:=by
  rw[show BitVec.ofInt 32 4294967295=BitVec.allOnes 32 by decide,BitVec.allOnes_xor]
 rw[e];exact wr_bv32 _
theorem bv_shl32{a:Int}{x:BitVec 32}(j:Nat)(hx:BitVec.ofInt 32 a=x):Value.int .u32 (IntKind.u32.wrap (a*2^j))=.int .u32 (((x<<<j).toNat:Nat):Int):=by
 rw[wrap_bv32,BitVec.ofInt_mul,hx]
 congr 3
 apply BitVec.eq_of_toNat_eq
 have e:((2:Int)^j)=((2^j:Nat):Int):=by simp
 rw[e,BitVec.ofInt_natCast,BitVec.toNat_mul,BitVec.toNat_ofNat,BitVec.toNat_shiftLeft,Nat.shiftLeft_eq,Nat.mul_mod,Nat.mod_mod,←Nat.mul_mod]
theorem bv_shr32(x:BitVec 32)(j:Nat):Value.int .u32 (((x.toNat:Nat):Int).fdiv (2^j))=.int .u32 (((x>>>j).toNat:Nat):Int):=by
 congr 1
 have e:((2:Int)^j)=((2^j:Nat):Int):=by simp
 rw[e,BitVec.toNat_ushiftRight,Nat.shiftRight_eq_div_pow,Int.fdiv_eq_ediv_of_nonneg _ (Int.natCast_nonneg _),Int.natCast_ediv]
theorem bv_i6432(x:BitVec 32)(h:((x.toNat:Nat):Int)≤9223372036854775807):Value.int .i64 (IntKind.i64.wrap ((x.toNat:Nat):Int))=.int .i64 ((x.toNat:Nat):Int):=wr_i64 (by omega)
theorem bv_cv8_32(x:BitVec 8):Value.int .u32 (IntKind.u32.wrap ((x.toNat:Nat):Int))=.int .u32 ((((x.setWidth 32)).toNat:Nat):Int):=by
 have e:BitVec.ofInt 32 ((x.toNat:Nat):Int)=x.setWidth 32:=by
  rw[BitVec.ofInt_natCast]
  apply BitVec.eq_of_toNat_eq
  rw[BitVec.toNat_ofNat,BitVec.toNat_setWidth]
 rw[wrap_bv32,e]
theorem bv_cv32_8(x:BitVec 32):Value.int .u8 (IntKind.u8.wrap ((x.toNat:Nat):Int))=.int .u8 ((((x.setWidth 8)).toNat:Nat):Int):=by
 have e:BitVec.ofInt 8 ((x.toNat:Nat):Int)=x.setWidth 8:=by
  rw[BitVec.ofInt_natCast]
  apply BitVec.eq_of_toNat_eq
  rw[BitVec.toNat_ofNat,BitVec.toNat_setWidth]
 rw[wrap_bv8,e]
theorem rem_run_i64{P:Program}{w:World}{x y:Int}(hy:0<y)(hx:0≤x):(Op.intDiv .rem .i64 x y).run P w=.ok (.int .i64 (x%y)) w:=by
 have a:¬y=0:=by omega
 simp only[Op.intDiv,if_neg a]
 rw[Int.tmod_eq_emod_of_nonneg hx];rfl
theorem rem_id{k:IntKind}{x n:Int}(h:0≤x):Value.int k (x.tmod n)=.int k (x%n):=by
 rw[Int.tmod_eq_emod_of_nonneg h]
theorem bv_nat(n p:Nat):BitVec.ofInt p ((n:Nat):Int)=BitVec.ofNat p n:=BitVec.ofInt_natCast ..
def Shape.bv(k:IntKind)(n:Nat):Shape (BitVec n)where
 size:=1
 rep _ _ cs x:=cs=[.int k ((x.toNat:Nat):Int)]
 pos:=by decide
 len h:=by rw[h];rfl
 ones h v hv:=by rw[h]at hv;simp at hv;subst hv;rfl
 step h _:=h
theorem Shape.bv_mk{k:IntKind}{n:Nat}{S:Nat→Prop}{w:World}{x:BitVec n}:(Shape.bv k n).rep S w [.int k ((x.toNat:Nat):Int)] x:=rfl
theorem Shape.bv_lit{k:IntKind}{n:Nat}{S:Nat→Prop}{w:World}{x:BitVec n}{a:Int}(h:a=((x.toNat:Nat):Int)):(Shape.bv k n).rep S w [.int k a] x:=by rw[h];rfl
end Go.BX

/-
 THE ENGINE's ARRAYS AND NEW SLICES: indices into arrays in memory, make, copy into a slice of the call's own.
 No condition.
-/
namespace Go.BX
open Go.RowKit(Below)
section
variable{P:Program}{n:Nat}{ds:List Deferred}{ops:Array Oper}{K:Env→World→Prop}{l r:List (Nat×Kd)}{σ:Env}{w:World}{κ:Kd}{d:Option Tmp}
variable{w0:World}{S:Nat→Prop}{O:List Nat}{M:Heap}{W:List OwnS}{G:List Fact}
def arrE(P:Program)(T:TypeId):Option (Nat×TypeId×Nat):=match P.underlying T with
 |some (.array n e)=>(P.info? e).map fun i=>(n,e,i.size)
 |_=>none
theorem arrE_spec{T e:TypeId}{N m:Nat}(h:arrE P T=some (N,e,m)):P.underlying T=some (.array N e)∧∃i,P.info? e=some i∧i.size=m := by
 unfold arrE at h
 split at h
 · rename_i n' e' hu
   cases hi:P.info? e' with
   |none=>rw[hi]at h;cases h
   |some i=>
    rw[hi]at h
    simp only[Option.map_some,Option.some.injEq,Prod.mk.injEq]at h
    obtain⟨rfl,rfl,rfl⟩:=h
    exact⟨hu,i,hi,rfl⟩
 ·cases h
theorem indexAt_arr{T e:TypeId}{N m:Nat}(hT:arrE P T=some (N,e,m)){b o:Nat}{ik:IntKind}{k:Nat}(hk:k<N):
 (Instr.indexAt T (.pointer (some ⟨b,o,none⟩)) (.int ik (k:Int))).run P w=.ok (.pointer (some ⟨b,o+k*m,none⟩)) w:=by
 obtain⟨hu,i,hi,hm⟩:=arrE_spec hT
 have a:¬N≤k:=by omega
 simp[Instr.indexAt,Instr.sureAddr,asIntOf,run_underlying hu,sizeOf,typeInfo,hi,hm,a,addr_lit]
theorem RW.indexP{T e:TypeId}{N m b o o2:Nat}{ik:IntKind}{ix:Int}(hl:look P n ops l σ=some (κ,semV (Instr.indexAt T (.pointer (some ⟨b,o,none⟩)) (.int ik ix)),d,r))(hT:arrE P T=some (N,e,m))
 (k:Nat)(hk:ix=(k:Int))(hx:k<N)(ho:o2=o+k*m)(h:RW P ops n ds K r (putO d (.pointer (some ⟨b,o2,none⟩)) σ) w):RW P ops n ds K l σ w:=by
 subst hk
 subst ho
 exact RW.readS hl (fun w' _=>semV_run (indexAt_arr hT hx)) h
theorem Hp.ownAt{α:Type}{sh:Shape α}{T:TypeId}{b len cap:Nat}{xs:List α}(H:Hp w0 S O M (⟨sh,T,.slice (some ⟨b,0,none⟩) len cap,xs⟩::W) G w)(k:Nat)(hk:k<xs.length)(hl:len=xs.length):
 ∃es,Cells w b (k*sh.size) es∧sh.rep (Av S w0 O (idsOf M (⟨sh,T,.slice (some ⟨b,0,none⟩) len cap,xs⟩::W))) w es xs[k]:=by
 obtain⟨b',es,ha,hc,hr⟩:=H.ownCell k hk hl
 simp only[Option.some.injEq,Addr.mk.injEq,and_true]at ha
 subst ha
 exact⟨es,hc,hr⟩
theorem Hp.ownBv{kd:IntKind}{N:Nat}{T:TypeId}{b len cap:Nat}{xs:List (BitVec N)}(H:Hp w0 S O M (⟨Shape.bv kd N,T,.slice (some ⟨b,0,none⟩) len cap,xs⟩::W) G w)(k:Nat)(hk:k<xs.length)(hl:len=xs.length):
 Cells w b k [.int kd ((xs[k].toNat:Nat):Int)]:=by
 obtain⟨es,hc,hr⟩:=H.ownAt k hk hl
 obtain rfl:=hr
 have e:k*(Shape.bv kd N).size=k:=Nat.mul_one k
 rwa[e]at hc
theorem RW.storeP{α:Type}{sh:Shape α}{xs:List α}{e T':TypeId}{m:Nat}{len cap k b o2:Nat}{v:Value}
 (hl:look P n ops l σ=some (.seq,semU (Instr.storeAt e (.pointer (some ⟨b,o2,none⟩)) v),d,r))(ho2:o2=k*m)(hm:m=sh.size)(ho:storeOk P e m v=true)(H:Hp w0 S O M (⟨sh,T',.slice (some ⟨b,0,none⟩) len cap,xs⟩::W) G w)
 (hx:k<xs.length)(hlen:len=xs.length)(y:α)(hy:sh.rep (Av S w0 O (idsOf M (⟨sh,T',.slice (some ⟨b,0,none⟩) len cap,xs⟩::W))) w v.cells.toList y)
 (h:∀w',Hp w0 S O M (⟨sh,T',.slice (some ⟨b,0,none⟩) len cap,xs.set k y⟩::W) G w'→RW P ops n ds K r (putO d undef σ) w'):RW P ops n ds K l σ w:=by
 subst ho2
 exact RW.storeW hl hm ho H rfl hx hlen y hy h
theorem Hp.toOwnN{α:Type}{sh:Shape α}{T:TypeId}{b N:Nat}{v0:Value}{x0:α}(H:Hp w0 S O ((b,.cells (Array.replicate N v0) T (0,0))::M) W G w)(hm:sh.size=1)(hN:N≤maxLen)(len:Nat)(hle:len≤N)(hz:∀S w,sh.rep S w [v0] x0):
 Hp w0 S O M (⟨sh,T,.slice (some ⟨b,0,none⟩) len N,List.replicate len x0⟩::W) G w:=by
 have a:v0.oneCell'=true:=sh.ones (hz (fun _=>True) w) v0 (by simp)
 have:=Hp.toOwn (sh:=sh) (xs:=List.replicate len x0) (cap:=N) H (by simp[hm]) (by simpa using hle) hN (fun v hv=>by
  have:=List.mem_of_mem_take hv
  simp only[Array.toList_replicate,List.mem_replicate]at this
  rw[this.2];exact a) (fun j x hx=>by
  have hj:=(List.getElem?_eq_some_iff.1 hx).1
  simp only[List.length_replicate]at hj
  rw[List.getElem?_replicate,if_pos hj]at hx
  cases hx
  have e:((Array.replicate N v0).toList.drop (j*sh.size)).take sh.size=[v0]:=by
   rw[hm,Array.toList_replicate,List.drop_replicate,List.take_replicate,Nat.mul_one,Nat.min_eq_left (by omega)]
   rfl
  rw[e];exact hz _ _)
 rwa[List.length_replicate]at this
theorem madeCells_one(v0:Value)(N:Nat):madeCells #[v0] N=Array.replicate N v0:=by
 apply Array.ext
 ·simp[madeCells]
 · intro i _ _
   simp[madeCells,Nat.mod_one]
def elemZ(P:Program)(T:TypeId):Option (TypeId×Nat×Value):=match P.underlying T with
 |some (.slice e)=>match P.info? e with
  |some i=>match i.zero with
   |some z=>match z.cells.toList with
    |[v0]=>cond (Nat.beq i.size 1) (some (e,i.bytes,v0)) none
    |_=>none
   |none=>none
  |none=>none
 |_=>none
theorem elemZ_spec{T e:TypeId}{by_:Nat}{v0:Value}(h:elemZ P T=some (e,by_,v0)):P.underlying T=some (.slice e)∧∃i z,P.info? e=some i∧i.zero=some z∧i.size=1∧i.bytes=by_∧z.cells=#[v0]:=by
 unfold elemZ at h
 split at h
 · rename_i e' hu
   split at h
   · rename_i i hi
     split at h
     · rename_i z hz
       split at h
       · rename_i v0' hv
         cases hb :Nat.beq i.size 1 with
         |false=>rw[hb]at h;cases h
         |true=>
          rw[hb]at h
          simp only[cond_true,Option.some.injEq,Prod.mk.injEq]at h
          obtain⟨rfl,rfl,rfl⟩:=h
          refine⟨hu,i,z,hi,hz,Nat.eq_of_beq_eq_true hb,rfl,?_⟩
          rw[←Array.toArray_toList (xs:=z.cells),hv]
       ·cases h
     ·cases h
   ·cases h
 ·cases h
theorem RW.makeW{α:Type}(sh:Shape α){T e:TypeId}{by_:Nat}{v0:Value}(x0:α){kl kc:IntKind}{lv cv:Int}(hl:look P n ops l σ=some (κ,semV (Instr.makeSlice T (.int kl lv) (.int kc cv)),d,r))(hκ:κ≠.qui)
 (hT:elemZ P T=some (e,by_,v0))(hm:sh.size=1)(H:Hp w0 S O M W G w)(ln cn:Nat)(h1:lv=(ln:Int))(h2:cv=(cn:Int))(hle:ln≤cn)(hby:cn*by_≤140737488355328)(hcn:cn≤140737488355328)(hz:∀S w,sh.rep S w [v0] x0)
 (h:∀b w',Hp w0 S O M (⟨sh,e,.slice (some ⟨b,0,none⟩) ln cn,List.replicate ln x0⟩::W) G w'→RW P ops n ds K r (putO d (.slice (some ⟨b,0,none⟩) ln cn) σ) w'):RW P ops n ds K l σ w:=by
 subst h1
 subst h2
 obtain⟨hu,i,z,hi,hzz,hs,hb,hc⟩:=elemZ_spec hT
 have hr:=run_make (P:=P) w T e i z hu hi hzz kl kc (ln:Int) (cn:Int) (by omega) (by omega) (by
  have:((cn*by_:Nat):Int)≤140737488355328:=by omega
  rw[Int.natCast_mul]at this
  rw[hb,Int.mul_comm];omega) (by omega)
 simp only[Int.toNat_natCast,hs,hc,Nat.mul_one,madeCells_one]at hr
 have a:=(H.alloc (.cells (Array.replicate cn v0) e (0,0))).toOwnN (sh:=sh) (x0:=x0) hm (by unfold maxLen;omega) ln hle hz
 refine RW.makeS hl hκ (semV_run hr) ?_ (h _ _ a)
 exact⟨rfl,rfl,rfl,(by show w.heap.size≤(w.heap.push _).size;simp),fun k hk=>by
  show(w.heap.push _)[k]?=_
  rw[Array.getElem?_push,if_neg (by omega)]⟩
theorem copy_zero_run{T T2 e ty:TypeId}{m:Nat}(hT:sliceE P T=some (e,m)){a a2:Option Addr}{dl dc sl sc:Nat}(h0:min sl dl=0):
 (Builtin.copy_ #[T,T2] ty #[.slice a dl dc,.slice a2 sl sc]).run P w=.ok (goInt (0:Nat)) w:=by
 obtain⟨hu,i,hi,hm⟩:=sliceE_spec hT
 have hmin:Nat.min sl dl=0:=h0
 cases a<;>cases a2<;>simp[Builtin.copy_,run_underlying hu,sizeOf,typeInfo,hi,Builtin.lenOf,hmin,Builtin.firstCells,loadCells,loadCellsFrom,storeCells]
theorem RW.copyW{α:Type}{sh:Shape α}{xs ys zs:List α}{T T2 e T' ty:TypeId}{m:Nat}{a a2:Option Addr}{dl dc sl sc:Nat}(hl:look P n ops l σ=some (.seq,semV (Builtin.copy_ #[T,T2] ty #[.slice a dl dc,.slice a2 sl sc]),d,r))
 (hT:sliceE P T=some (e,m))(hm:m=sh.size)(H:Hp w0 S O M (⟨sh,T',.slice a dl dc,xs⟩::W) G w)(g:Nat)(hg:G[g]?=some (Rp sh.slice [.slice a2 sl sc] ys))(hlen:dl=xs.length)(hz:ys.take xs.length++xs.drop ys.length=zs)
 (h:∀w',Hp w0 S O M (⟨sh,T',.slice a dl dc,zs⟩::W) G w'→RW P ops n ds K r (putO d (goInt (min sl dl: Nat)) σ) w') : RW P ops n ds K l σ w := by
 subst hm
 obtain⟨rfl, _, _, hE⟩:= Shape.elems_of (H.rp g hg)
 by_cases h0 : min ys.length dl = 0
 · have e : zs = xs := by
    rw[← hz]
    rcases Nat.eq_zero_or_pos xs.length with hx | hx
    · rw[List.eq_nil_of_length_eq_zero hx]; simp
    · have : ys.length = 0 := by omega
      rw[List.eq_nil_of_length_eq_zero this]; simp
   subst e
   have f := h w H
   rw[h0]at f
   exact RW.actV hl (semV_run (copy_zero_run hT h0)) f
 · obtain⟨s, o2, news, rfl, _, hn, hc, i,hr⟩:=elems_flat hE (by intro e;subst e;simp at h0)
   obtain⟨b,c,rfl,-,hcs,t,u,y,HR⟩:=H.toRaw1 (by omega)
   have hmle:min ys.length dl*sh.size≤ys.length*sh.size:=Nat.mul_le_mul_right _ (Nat.min_le_left _ _)
   have k:min ys.length dl*sh.size≤xs.length*sh.size:=Nat.mul_le_mul_right _ (by omega)
   have p:xs.length*sh.size≤dc*sh.size:=Nat.mul_le_mul_right _ t
   have hnl:(news.take (min ys.length dl*sh.size)).length=min ys.length dl*sh.size:=by rw[List.length_take];omega
   have hcl:c.toList.length=dc*sh.size:=by simpa using hcs
   have hrun:=copy_run (P:=P) (w:=w) (T2:=T2) (ty:=ty) hT (dl:=dl) (dc:=dc) (sl:=ys.length) (sc:=sc) (HR.own _ (List.mem_cons_self ..)).1 (o:=0) (so:=o2) (news:=news.take (min ys.length dl*sh.size)) (o1:=0) (o2:=o2) (sb:=s) hnl
    (fun j v hj=>hc j v (by rw[List.getElem?_take]at hj;split at hj;exact hj;cases hj)) (fun v hv=>i v (List.mem_of_mem_take hv)) (fun _=>rfl) (fun _=>rfl) (by rw[hnl];omega) (by omega)
   refine RW.actV hl (semV_run hrun) (h _ ?_)
   have HP:=HR.put 0 rfl (.cells (c.toList.take 0++news.take (min ys.length dl*sh.size)++c.toList.drop (0+(news.take (min ys.length dl*sh.size)).length)).toArray T' (0,0))
   rw[List.take_zero,List.nil_append,Nat.zero_add,hnl]at HP⊢
   have hzl:zs.length=xs.length:=by
    rw[←hz];simp;omega
   have HF:Hp w0 S O M (⟨sh,T',.slice (some ⟨b,0,none⟩) zs.length dc,zs⟩::W) (Es sh c.toList xs::G) {w with heap:=w.heap.setIfInBounds b (.cells (news.take (min ys.length dl*sh.size)++c.toList.drop (min ys.length dl*sh.size)).toArray T' (0,0))}:= by
    refine HP.toOwn (by simp[hnl]; omega) (by omega) u (fun v hv =>?_) ?_
    · rw[hzl, List.take_append, hnl]at hv
      rcases List.mem_append.1 hv with hv | hv
      · exact i v (List.mem_of_mem_take (List.mem_of_mem_take hv))
      · rw[← List.drop_take]at hv
        exact y v (List.mem_of_mem_drop hv)
    · show EsP sh _ _ (news.take (min ys.length dl * sh.size) ++ c.toList.drop (min ys.length dl * sh.size)) zs
      rw[← hz]
      have z : ys.take xs.length=ys.take (min ys.length dl):=by
       rw[hlen]
       rcases Nat.le_total ys.length xs.length with hq|hq
       ·rw[Nat.min_eq_left hq,List.take_of_length_le hq,List.take_of_length_le (Nat.le_refl _)]
       ·rw[Nat.min_eq_right hq]
      have A:xs.drop ys.length=xs.drop (min ys.length dl):=by
       rw[hlen]
       rcases Nat.le_total ys.length xs.length with hq|hq
       ·rw[Nat.min_eq_left hq]
       ·rw[Nat.min_eq_right hq,List.drop_of_length_le hq,List.drop_of_length_le (Nat.le_refl _)]
      rw[z,A]
      refine EsP.app (by rw[hnl,List.length_take];congr 1;omega) ?_ ((HP.es 0 rfl).drop _)
      have hy:EsP sh _ _ news ys:=hr
      refine EsP.take (fun j x hx=>sh.step (hy j x hx) fun q hq hlt=>?_) _ (Nat.min_le_left _ _) (by omega)
      have hne:q≠b:=by
       intro e;subst e
       exact hq.2 (by simp[idsOf,OwnS.blk])
      refine⟨⟨hq.1,fun hi=>hq.2 ?_⟩, ?_⟩
      · simp only[idsOf, List.map_cons, List.cons_append, List.mem_cons, List.mem_append, List.flatMap_cons, OwnS.blk]at hi ⊢
        rcases hi with h | h | h
        · exact .inr (.inl (by simp[h]))
        · exact .inl h
        · exact .inr (.inr (.inr h))
      · show(w.heap.setIfInBounds b _)[q]?= _
        rw[Array.getElem?_setIfInBounds_ne (Ne.symm hne)]
   rw[hzl, ← hlen]at HF
   exact HF.facts_sub fun F hF => List.mem_cons_of_mem _ hF
theorem sliceAt_arr{T e:TypeId}{N m:Nat}(hT:arrE P T=some (N,e,m)){b hi:Nat}{hv:Option Value}(h2:hiOk hv N hi)(hh:hi≤N):
 (Instr.sliceAt T (.pointer (some ⟨b,0,none⟩)) none hv none).run P w=.ok (.slice (some ⟨b,0,none⟩) hi N) w:=by
 obtain⟨hu,i,hi',hm⟩:= arrE_spec hT
 rcases h2 with⟨rfl, rfl⟩|⟨kk, rfl⟩
 · by_cases h0 : hi =0
   ·subst h0;simp[Instr.sliceAt,Instr.sureAddr,Instr.sliceBounds,run_underlying hu,sizeOf,typeInfo,hi',hm]
   ·simp[Instr.sliceAt,Instr.sureAddr,Instr.sliceBounds,run_underlying hu,sizeOf,typeInfo,hi',hm,addr_lit, h0]
 · by_cases h0 : N = 0
   · subst h0
     have:hi=0:=by omega
     subst this
     simp[Instr.sliceAt,Instr.sureAddr,Instr.sliceBounds,Instr.sliceBound,asIntOf,run_underlying hu,sizeOf,typeInfo, hi', hm]
   · have a : (hi :Int)≤(N:Int):=by omega
     simp[Instr.sliceAt,Instr.sureAddr,Instr.sliceBounds,Instr.sliceBound,asIntOf,run_underlying hu,sizeOf,typeInfo,hi',hm,addr_lit,h0,a]
     intro _;exact absurd hh (by omega)
theorem RW.sliceP{α:Type}{sh:Shape α}{xs:List α}{T e T':TypeId}{N m len cap b:Nat}{hv:Option Value}(hl:look P n ops l σ=some (κ,semV (Instr.sliceAt T (.pointer (some ⟨b,0,none⟩)) none hv none),d,r))(hT:arrE P T=some (N,e,m))
 (H:Hp w0 S O M (⟨sh,T',.slice (some ⟨b,0,none⟩) len cap,xs⟩::W) G w)(hi:Nat)(h2:hiOk hv N hi)(hh:hi≤N)(hlen:len=xs.length)(hN:len=N)(hc:cap=N)(hpos:0<N)
 (h:Hp w0 S O M (⟨sh,T',.slice (some ⟨b,0,none⟩) hi N,xs.take hi⟩::W) G w→RW P ops n ds K r (putO d (.slice (some ⟨b,0,none⟩) hi N) σ) w):RW P ops n ds K l σ w:=by
 subst hc
 exact RW.readS hl (fun w' _=>semV_run (sliceAt_arr hT h2 hh)) (h (H.cutN hi (by omega) hlen (by omega)))
end
end Go.BX

/-
 THE ENGINE's STRINGS: bytes made a string.
 No condition.
-/
namespace Go.BX
def strOf(xs:List (BitVec 8)):ByteArray:=(xs.map fun x=>((x.toNat:Nat):Int)).foldl (fun r n=>r.push (UInt8.ofNat n.toNat)) ByteArray.empty
theorem bv_flat{kd:IntKind}{N:Nat}{S:Nat→Prop}{w:World}{news:List Value}{xs:List (BitVec N)}(hl:news.length=xs.length*(Shape.bv kd N).size)(h:∀i x,xs[i]?=some x→(Shape.bv kd N).rep S w ((news.drop (i*(Shape.bv kd N).size)).take (Shape.bv kd N).size) x):
 news=xs.map fun x=>Value.int kd ((x.toNat:Nat):Int):=by
 have hl':news.length=xs.length:=by rw[hl];exact Nat.mul_one _
 apply List.ext_getElem?
 intro i
 rw[List.getElem?_map]
 cases hx:xs[i]? with
 |none=>
  have:=List.getElem?_eq_none_iff.1 hx
  rw[List.getElem?_eq_none (by omega)];rfl
 |some x=>
  have b:=h i x hx
  have c:i*(Shape.bv kd N).size=i:=Nat.mul_one i
  rw[c]at b
  have a:(news.drop i).take 1=[Value.int kd ((x.toNat:Nat):Int)]:=b
  have hlt:=(List.getElem?_eq_some_iff.1 hx).1
  rw[List.drop_eq_getElem_cons (by omega),List.take_succ_cons,List.take_zero]at a
  rw[List.getElem?_eq_getElem (by omega)]
  simp only[List.cons.injEq,and_true]at a
  rw[a];rfl
section
variable{P:Program}{n:Nat}{ds:List Deferred}{ops:Array Oper}{K:Env→World→Prop}{l r:List (Nat×Kd)}{σ:Env}{w:World}{κ:Kd}{d:Option Tmp}
def strE(P:Program)(Ts Td e:TypeId):Bool:=match P.underlying Ts,P.underlying Td,P.underlying e with
 |some (.slice e'),some .string,some (.int .u8)=>Nat.beq e' e
 |_,_,_=>false
theorem toStr_run{S:Nat→Prop}{a:Option Addr}{len cap:Nat}{xs:List (BitVec 8)}(h:(Shape.bv .u8 8).slice.rep S w [.slice a len cap] xs):(Conv.bytesToString (.slice a len cap)).run P w=.ok (.string (strOf xs)) w:=by
 obtain⟨rfl,_,_,hE⟩:=Shape.elems_of h
 by_cases hne: xs = []
 · subst hne
   cases a with
   | none=>rfl
   |some a=>
    exact run_bytesToString (P:=P) w a 0 cap [] (by simp[loadCells, loadCellsFrom])
 · obtain⟨b, o, news, rfl, hS,hn,hc,_,hr⟩:=elems_flat hE hne
   have e:=bv_flat hn hr
   have hl:news.length=xs.length:=by rw[hn];exact Nat.mul_one _
   have hld:=loadCellsFrom_run (P:=P) (b:=b) (o:=o) xs.length 0 #[] news w hl (fun j v hj=>by rw[Nat.add_zero];exact hc j v hj)
   refine run_bytesToString (P:=P) w ⟨b,o,none⟩ xs.length cap (xs.map fun x=>((x.toNat:Nat):Int)) ?_
   rw[List.map_map]
   have c:news=xs.map (Value.int .u8∘fun x=>((x.toNat:Nat):Int)):=by rw[e];rfl
   rw[←c]
   simpa[loadCells]using hld
theorem RW.toStr{S:Nat→Prop}{Ts Td:TypeId}(e:TypeId){a:Option Addr}{len cap:Nat}{xs:List (BitVec 8)}(hl:look P n ops l σ=some (κ,semV (convert Ts Td (.slice a len cap)),d,r))(hT:strE P Ts Td e=true)
 (h:(Shape.bv .u8 8).slice.rep S w [.slice a len cap] xs)(hk:RW P ops n ds K r (putO d (.string (strOf xs)) σ) w):RW P ops n ds K l σ w:=by
 refine RW.readS hl (fun w' he=> semV_run ?_) hk
 unfold strE at hT
 split at hT
 · rename_i e' h1 h2 h3
   obtain rfl :=Nat.eq_of_beq_eq_true hT
   rw[run_convert_bytes_string w' Ts Td e' a len cap h1 h3 h2]
   have hlt:∀b,S b→b<w.heap.size→S b∧w'.heap[b]?=w.heap[b]?:=fun b hb hlt=>⟨hb,Go.RowKit.Below.block he b hlt⟩
   exact toStr_run ((Shape.bv .u8 8).slice.step h hlt)
 ·cases hT
def bytesOf(s:ByteArray):List (BitVec 8):=s.data.toList.map fun b=>BitVec.ofNat 8 b.toNat
theorem bytesOf_len(s:ByteArray):(bytesOf s).length=s.size:=by simp[bytesOf]
theorem RW.ofStr{w0:World}{S:Nat→Prop}{O:List Nat}{M:Heap}{W:List OwnS}{G:List Fact}{Ts Td:TypeId}(e:TypeId){s:ByteArray}(hl:look P n ops l σ=some (κ,semV (convert Ts Td (.string s)),d,r))(hκ:κ≠.qui)(hT:strE P Td Ts e=true)(hs:s.size≤maxLen)
 (H:Hp w0 S O M W G w)(h:∀a c w',Hp w0 S O M W (Rp (Shape.bv .u8 8).slice [.slice a (bytesOf s).length c] (bytesOf s)::G) w'→RW P ops n ds K r (putO d (.slice a (bytesOf s).length c) σ) w'):RW P ops n ds K l σ w := by
 unfold strE at hT
 split at hT
 · rename_i e' h1 h2 h3
   obtain rfl := Nat.eq_of_beq_eq_true hT
   have hr := run_bytes_of_string (P := P) w Ts Td e' s h2 h1 h3
   have hge :=grownCap_ge w s.size 0 e'
   have hle:=grownCap_le_maxLen w s.size 0 e' hs
   rw[←bytesOf_len]at hr hge hle
   generalize grownCap w (bytesOf s).length 0 e'=cap at hr hge hle
   generalize hC:bytesRow s cap=C at hr
   have he:Ext w (w.drew.alloc (.cells C e' (C.size,C.size+1))):=⟨rfl,rfl,rfl,(by show w.heap.size≤(w.heap.push _).size;simp),fun k hk=>by
    show(w.heap.push _)[k]?=_
    rw[Array.getElem?_push,if_neg (by omega)]⟩
   refine RW.makeS hl hκ (semV_run hr) he (h _ _ _ (H.addN he ⟨_,cap,rfl,hge,hle,fun i x hx=>?_⟩))
   have hlt:=(List.getElem?_eq_some_iff.1 hx).1
   refine⟨w.heap.size,0,[.int .u8 ((x.toNat:Nat):Int)],rfl,.inr (Nat.le_refl _),fun j v hj=>?_,rfl⟩
   have b:j=0:=by have:=(List.getElem?_eq_some_iff.1 hj).1;simp at this;exact this
   subst b
   simp only[List.getElem?_cons_zero,Option.some.injEq]at hj
   subst hj
   have hh:(w.drew.alloc (.cells C e' (C.size,C.size+1))).heap[w.heap.size]?=some (.cells C e' (C.size,C.size+1)):=by
    show(w.heap.push _)[w.heap.size]?=_
    simp
   have hsz:(Shape.bv .u8 8).size=1:=rfl
   simp only[World.cell?,hh,hsz,Nat.zero_add,Nat.mul_one,Nat.add_zero]
   subst hC
   have hi:i<s.data.size:=by rw[bytesOf_len]at hlt;exact hlt
   simp only[bytesOf,List.getElem?_map,Array.getElem?_toList,Array.getElem?_eq_getElem hi,Option.map_some,Option.some.injEq]at hx
   subst hx
   have hb:=(s.data[i]).toNat_lt
   simp only[bytesRow]
   rw[Array.getElem?_append_left (by simpa using hi)]
   simp only[Array.getElem?_map,Array.getElem?_eq_getElem hi,Option.map_some,Option.isSome_none,Bool.false_eq_true,if_false,BitVec.toNat_ofNat,Nat.mod_eq_of_lt hb]
 ·cases hT
theorem Shape.i64_in{S:Nat→Prop}{w:World}{x:Int}(h1:-9223372036854775808≤x)(h2:x≤9223372036854775807):(Shape.int .i64).rep S w [.int .i64 x] x:=⟨rfl,h1,h2⟩
end
end Go.BX

/-
 THE ENGINE: its most used steps under short names, and short names for values.
 No condition.
-/
abbrev Go.Value.I(x:Int):Go.Value:=.int .i64 x
abbrev Go.Value.P(b o:Nat):Go.Value:=.pointer (some ⟨b,o,none⟩)
abbrev Go.Value.L{α:Type}(a:Option Go.Addr)(xs:List α)(c:Nat):Go.Value:=.slice a xs.length c
namespace Go.BX
abbrev Sb:Shape (BitVec 8):=Shape.bv .u8 8
abbrev SB:Shape (List (BitVec 8)):=Shape.slice Sb
abbrev Cq(P:Program)(f:Nat)(p:List Nat):Item:=.code (cd P f p)
abbrev Lq(P:Program)(f:Nat)(p:List Nat):Item:=.inLoop (cd P f p)
inductive It where
 |c(p:List Nat)
 |l(p:List Nat)
 |b(n:Nat)
abbrev it(P:Program)(f:Nat):It→Item
 |.c p=>.code (cd P f p)
 |.l p=>.inLoop (cd P f p)
 |.b n=>.inBlock n
abbrev qs(l:List Nat):List (Nat×Kd):=l.map fun i=>(i,.qui)
theorem i64a{S:Nat→Prop}{w:World}{x:Int}(h1:-9223372036854775808≤x:=by first|omega|(simp<;>omega))(h2:x≤9223372036854775807:=by first|omega|(simp<;>omega)):(Shape.int .i64).rep S w [.int .i64 x] x:=Shape.i64_in h1 h2
section
variable{P:Program}{f:FuncId}{n:Nat}{σ:Env}{ds:List Deferred}{w w1:World}{Bs:List Nat}{R:Ending→World→Prop}{ops:Array Oper}{K:Env→World→Prop}{l:List (Nat×Kd)}
theorem qP(m:Nat)(l':List (Nat×Kd))(σ':Env)(hk:RW P ops n ds K l' σ' w)(h:(rrun P n ops m l σ).map (fun x=>(x.1,pick (σ'.map (·.1)) x.2))=some (l',σ'):=by as_aux_lemma=>kernel_rfl)(hl:l'.isEmpty=false:=by as_aux_lemma=>kernel_rfl):RW P ops n ds K l σ w:=
 RW.runP m _ l' σ' h hl hk
theorem qR{todo:List Item}(m:Nat)(t:List It)(σ':Env)(hk:WK P f n (t.map (it P f)) σ' ds w R)(h:(mrun P n m todo σ).map (fun x=>(x.1,pick (σ'.map (·.1)) x.2))=some (t.map (it P f),σ'):=by as_aux_lemma=>kernel_rfl):WK P f n todo σ ds w R:=
 WK.run m _ _ σ' h hk
theorem qF{k:List Item}(m:Nat)(σ':Env)(hk:WK P f n k σ' ds w R)(h:(rrun P n ops m l σ).map (fun x=>(x.1,pick (σ'.map (·.1)) x.2))=some ([],σ'):=by as_aux_lemma=>kernel_rfl):
 RW P ops n ds (fun σ' w'=>WK P f n k σ' ds w' R) l σ w:=RW.fin m _ σ' h hk
theorem qG{c:Code}{k:List Item}(l:List (Nat×Kd))(h:RW P (opsOf c) n ds (fun σ' w'=>WK P f n k σ' ds w' R) l σ w)(hc:c=.region (idOf c) (opsOf c) false:=by as_aux_lemma=>kernel_rfl)(hl:l.map (·.1)=List.range (opsOf c).size:=by as_aux_lemma=>kernel_rfl):
 WK P f n (.code c::k) σ ds w R:=WK.reg1 hc hl h
theorem qC{g:Nat}{p:List Nat}{k:List Item}(b:Bool)(ht:b=true→WK P f n (.code (cd P g (p++[0]))::k) σ ds w R)(hf:b=false→WK P f n (.code (cd P g (p++[1]))::k) σ ds w R)
 (hc:cd P g p=.cond (condOf (cd P g p)) (cd P g (p++[0])) (cd P g (p++[1])):=by as_aux_lemma=>kernel_rfl)(hb:ev σ (condOf (cd P g p))=some (.bool b):=by as_aux_lemma=>kernel_rfl):
 WK P f n (.code (cd P g p)::k) σ ds w R:=WK.cond1 b hc hb ht hf
theorem qT{fn:Func}{c:Code}{k:List Item}(v:Value)(hf:P.funcs[f]?=some fn)(h:R (.returned v) w)(hc:c=.ret:=by as_aux_lemma=>kernel_rfl)(hr:resV σ fn.results=some v:=by as_aux_lemma=>kernel_rfl):
 WK P f n (.code c::k) σ [] w R:=WK.ret hf hc hr h
theorem qL(κ:Kd)(d:Nat)(r:List (Nat×Kd))(T:TypeId)(b o' k:Nat)(v:Value){o:Nat}{cs:List Value}(hc:Cells w b o cs)(h:RW P ops n ds K r (putO (some d) v σ) w)
 (hl:look P n ops l σ=some (κ,semV (Instr.loadAt T (.pointer (some ⟨b,o',none⟩))),some d,r):=by as_aux_lemma=>kernel_rfl)(he:loadE P T cs k=some v:=by as_aux_lemma=>kernel_rfl)(hk:o'=o+k:=by rfl):RW P ops n ds K l σ w:=
 RW.load hl hc hk he h
theorem qK(κ:Kd)(d:Option Tmp)(r:List (Nat×Kd))(g:FuncId)(args:Array Value){φ:Value→World→Prop}(hc:Calls P g args w (Ret fun v w'=>Ext w w'∧φ v w'))
 (hk:∀v w',Ext w w'→φ v w'→RW P ops n ds K r (putO d v σ) w')(hl:lookC P n ops l σ=some (κ,g,args,d,r):=by as_aux_lemma=>kernel_rfl)(hκ:κ≠.qui:=by nofun):RW P ops n ds K l σ w:=RW.call hl hκ hc hk
theorem qD{g:Nat}{p:List Nat}{k:List Item}(q:Prop)[Decidable q](ht:q→WK P f n (.code (cd P g (p++[0]))::k) σ ds w R)(hf:¬q→WK P f n (.code (cd P g (p++[1]))::k) σ ds w R)
 (hc:cd P g p=.cond (condOf (cd P g p)) (cd P g (p++[0])) (cd P g (p++[1])):=by as_aux_lemma=>kernel_rfl)(hb:ev σ (condOf (cd P g p))=some (.bool (decide q)):=by as_aux_lemma=>kernel_rfl):
 WK P f n (.code (cd P g p)::k) σ ds w R:=WK.cond1 (decide q) hc hb (fun h=>ht (of_decide_eq_true h)) (fun h=>hf (of_decide_eq_false h))
theorem qE{g:Nat}{p:List Nat}{k:List Item}{α:Type}[BEq α][LawfulBEq α](x y:α)(ht:x=y→WK P f n (.code (cd P g (p++[0]))::k) σ ds w R)(hf:x≠y→WK P f n (.code (cd P g (p++[1]))::k) σ ds w R)
 (hc:cd P g p=.cond (condOf (cd P g p)) (cd P g (p++[0])) (cd P g (p++[1])):=by as_aux_lemma=>kernel_rfl)(hb:ev σ (condOf (cd P g p))=some (.bool (x==y)):=by as_aux_lemma=>kernel_rfl):
 WK P f n (.code (cd P g p)::k) σ ds w R:=WK.cond1 (x==y) hc hb (fun h=>ht (eq_of_beq h)) (fun h=>hf (ne_of_beq_false h))
theorem qN{g:Nat}{p:List Nat}{k:List Item}{α:Type}[BEq α][LawfulBEq α](x y:α)(ht:x≠y→WK P f n (.code (cd P g (p++[0]))::k) σ ds w R)(hf:x=y→WK P f n (.code (cd P g (p++[1]))::k) σ ds w R)
 (hc:cd P g p=.cond (condOf (cd P g p)) (cd P g (p++[0])) (cd P g (p++[1])):=by as_aux_lemma=>kernel_rfl)(hb:ev σ (condOf (cd P g p))=some (.bool (x !=y)):=by as_aux_lemma=>kernel_rfl):
 WK P f n (.code (cd P g p)::k) σ ds w R:=WK.cond1 (x !=y) hc hb (fun h=>ht (bne_iff_ne.1 h)) (fun h=>hf (bne_eq_false_iff_eq.1 h))
theorem tN{α:Type}[BEq α][LawfulBEq α](F:Bool→Env)(x y:α)(ht:x≠y→RW P ops n ds K l (F true) w)(hf:x=y→RW P ops n ds K l (F false) w):RW P ops n ds K l (F (x !=y)) w:=RW.test F _ (fun h=>ht (bne_iff_ne.1 h)) (fun h=>hf (bne_eq_false_iff_eq.1 h))
end
section
variable{P:Program}{f:FuncId}{n:Nat}{σ:Env}{ds:List Deferred}{w:World}{R:Ending→World→Prop}{ops:Array Oper}{K:Env→World→Prop}{l:List (Nat×Kd)}
theorem qW{w0:World}{S:Nat→Prop}{O:List Nat}{M:Heap}{W:List OwnS}{G:List Fact}{T':TypeId}{c c':Array Value}(T:TypeId)(b k:Nat)(r:List (Nat×Kd))(v:Value)(M':Heap)(H:Hp w0 S O M W G w)(i:Nat)(hm:M[i]?=some (b,.cells c T' (0,0)))(hM:M.set i (b,.cells c' T' (0,0))=M')
 (h:∀w',Hp w0 S O M' W G w'→RW P ops n ds K r (putO none undef σ) w')(hl:look P n ops l σ=some (.seq,semU (Instr.storeAt T (.pointer (some ⟨b,k,none⟩)) v),none,r):=by as_aux_lemma=>kernel_rfl)(hs:storeE P T k v c=some c':=by as_aux_lemma=>kernel_rfl):RW P ops n ds K l σ w:=
 RW.store hl H i hm hs hM h
theorem v1{fn:Func}{v:Value}(x:ResultVar)(h:RV P n ds σ w x v)(hf:fn.results=#[x]:=by as_aux_lemma=>kernel_rfl):∀a,Fits n σ ds a→(results fn a.tmps).run P w=.ok v w:=RV.res1 hf h
theorem v2{fn:Func}{v u:Value}(x y:ResultVar)(h:RV P n ds σ w x v)(k:RV P n ds σ w y u)(hf:fn.results=#[x,y]:=by as_aux_lemma=>kernel_rfl):∀a,Fits n σ ds a→(results fn a.tmps).run P w=.ok (.tuple #[v,u]) w:=RV.res2 hf h k
theorem v3{fn:Func}{v u t:Value}(x y z:ResultVar)(h:RV P n ds σ w x v)(k:RV P n ds σ w y u)(j:RV P n ds σ w z t)(hf:fn.results=#[x,y,z]:=by as_aux_lemma=>kernel_rfl):∀a,Fits n σ ds a→(results fn a.tmps).run P w=.ok (.tuple #[v,u,t]) w:=RV.res3 hf h k j
end
def fr.{u}{α:Type u}(i:Nat)(l:List α):List α:=match l[i]? with
 |some x=>x::l.eraseIdx i
 |none=>l
theorem fr_perm.{u}{α:Type u}(i:Nat)(l:List α):(fr i l).Perm l:= by
 unfold fr
 split
 · rename_i x h
   obtain⟨hi,rfl⟩:=List.getElem?_eq_some_iff.1 h
   have e:l=l.take i++l[i]::l.drop (i+1):=by rw[List.getElem_cons_drop,List.take_append_drop]
   rw[List.eraseIdx_eq_take_drop_succ]
   exact List.perm_middle.symm.trans (List.Perm.of_eq e.symm)
 ·exact List.Perm.refl _
theorem Hp.frontM{w0 w:World}{S:Nat→Prop}{O:List Nat}{M:Heap}{W:List OwnS}{G:List Fact}(H:Hp w0 S O M W G w)(i:Nat){M':Heap}(h:fr i M=M'):Hp w0 S O M' W G w:=by
 subst h
 exact H.perms (fr_perm i M) (List.Perm.refl _)
theorem Hp.frontW{w0 w:World}{S:Nat→Prop}{O:List Nat}{M:Heap}{W:List OwnS}{G:List Fact}(H:Hp w0 S O M W G w)(i:Nat){W':List OwnS}(h:fr i W=W'):Hp w0 S O M W' G w:=by
 subst h
 exact H.perms (List.Perm.refl _) (fr_perm i W)
end Go.BX

/-
 THE ENGINE: ways that part within a region come together behind it.
 No condition.
-/
namespace Go.BX
theorem WK.join{P:Program}{f:FuncId}{n:Nat}{k:List Item}{σ:Env}{ds:List Deferred}{w:World}{R:Ending→World→Prop}{α:Type}(Q:α→Prop)(F:α→Env)(k':List Item)
 (h:(∀x,Q x→WK P f n k' (F x) ds w R)→WK P f n k σ ds w R)(hj:∀x,Q x→WK P f n k' (F x) ds w R):WK P f n k σ ds w R:=h hj
theorem WK.joinV{P:Program}{f:FuncId}{n:Nat}{k:List Item}{σ:Env}{ds:List Deferred}{w:World}{R:Ending→World→Prop}{α:Type}(Q:α→World→Prop)(F:α→Env)(k':List Item)
 (h:(∀x w',Q x w'→WK P f n k' (F x) ds w' R)→WK P f n k σ ds w R)(hj:∀x w',Q x w'→WK P f n k' (F x) ds w' R):WK P f n k σ ds w R:=h hj
end Go.BX

/-
 THE ENGINE: the most used steps, with what the slots hold left as it is computed.
 No condition.
-/
namespace Go.BX
def eM(P:Program)(n m:Nat)(k:List Item)(σ:Env):Env:=match mrun P n m k σ with
 |some x=>x.2
 |none=>[]
def eR(P:Program)(n:Nat)(ops:Array Oper)(m:Nat)(l:List (Nat×Kd))(σ:Env):Env:=match rrun P n ops m l σ with
 |some x=>x.2
 |none=>[]
section
variable{P:Program}{f:FuncId}{n:Nat}{σ:Env}{ds:List Deferred}{w w1:World}{Bs:List Nat}{R:Ending→World→Prop}{ops:Array Oper}{K:Env→World→Prop}{l:List (Nat×Kd)}
theorem eM_eq{m:Nat}{k k':List Item}(h:(mrun P n m k σ).map (·.1)=some k'):mrun P n m k σ=some (k',eM P n m k σ):=by
 unfold eM
 cases hr:mrun P n m k σ with
 |none=>rw[hr]at h;cases h
 |some x=>rw[hr]at h;cases h;rfl
theorem eR_eq{m:Nat}{l':List (Nat×Kd)}(h:(rrun P n ops m l σ).map (·.1)=some l'):rrun P n ops m l σ=some (l',eR P n ops m l σ):=by
 unfold eR
 cases hr:rrun P n ops m l σ with
 |none=>rw[hr]at h;cases h
 |some x=>rw[hr]at h;cases h;rfl
theorem sub1{s:Nat}{v:Value}(h:find σ s=some v)(t:Nat)(u:Value)(hu:find ((s,v)::σ) t=some u):find σ t=some u:=by
 rw[find_cons]at hu
 by_cases e:s=t
 ·subst e;rw[if_pos rfl]at hu;rw[h,hu]
 ·rwa[if_neg e]at hu
theorem RW.sub1{s:Nat}{v:Value}(h:find σ s=some v)(hl:l.isEmpty=false)(hk:RW P ops n ds K l ((s,v)::σ) w):RW P ops n ds K l σ w:=
 RW.sub (by intro e;subst e;cases hl) (Go.BX.sub1 h) hk
theorem RH.sub1{s:Nat}{v:Value}(h:find σ s=some v)(hl:l.isEmpty=false)(hk:RH P ops n ds w1 Bs K l ((s,v)::σ) w):RH P ops n ds w1 Bs K l σ w:=
 RH.sub (by intro e;subst e;cases hl) (Go.BX.sub1 h) hk
theorem uS1{fn:Func}{args:Array Value}(hf:P.funcs[f]?=some fn)(h:WK P f fn.ntmps [.code (cd P f [])] ((List.range args.toList.length).zip args.toList) [] w R)(hb:fn.body=some (cd P f []):=by as_aux_lemma=>kernel_rfl)
 (ha:Nat.ble args.toList.length fn.ntmps=true:=by as_aux_lemma=>kernel_rfl):Calls P f args w R:=WK.calls1 hf rfl hb ha rfl h
theorem uR{k:List Item}(m:Nat)(t:List It)(hk:WK P f n (t.map (it P f)) (eM P n m k σ) ds w R)(h:(mrun P n m k σ).map (·.1)=some (t.map (it P f)):=by as_aux_lemma=>kernel_rfl):WK P f n k σ ds w R:=
 steps_spec m (eM_eq h) hk
theorem uF{k:List Item}(m:Nat)(hk:WK P f n k (eR P n ops m l σ) ds w R)(h:(rrun P n ops m l σ).map (·.1)=some []:=by as_aux_lemma=>kernel_rfl):
 RW P ops n ds (fun σ' w'=>WK P f n k σ' ds w' R) l σ w:=rrun_spec m l [] σ _ (eR_eq h) hk
theorem uHF{k:List Item}(hS:Chg w1 Bs w)(m:Nat)(hk:WK P f n k (eR P n ops m l σ) ds w R)(h:(rrun P n ops m l σ).map (·.1)=some []:=by as_aux_lemma=>kernel_rfl):
 RH P ops n ds w1 Bs (fun σ' w'=>WK P f n k σ' ds w' R) l σ w:=rrunH_spec hS m l [] σ _ (eR_eq h) hk
theorem uT(s:Nat)(b:Bool)(ht:b=true→RW P ops n ds K l ((s,.bool true)::σ) w)(hf:b=false→RW P ops n ds K l ((s,.bool false)::σ) w)
 (h:find σ s=some (.bool b):=by as_aux_lemma=>kernel_rfl)(hl:l.isEmpty=false:=by as_aux_lemma=>kernel_rfl):RW P ops n ds K l σ w:=by
 cases b
 ·exact RW.sub1 h hl (hf rfl)
 ·exact RW.sub1 h hl (ht rfl)
theorem uD(s:Nat)(q:Prop)[Decidable q](ht:q→RW P ops n ds K l ((s,.bool true)::σ) w)(hf:¬q→RW P ops n ds K l ((s,.bool false)::σ) w)
 (h:find σ s=some (.bool (decide q)):=by as_aux_lemma=>kernel_rfl)(hl:l.isEmpty=false:=by as_aux_lemma=>kernel_rfl):RW P ops n ds K l σ w:=
 uT s (decide q) (fun h=>ht (of_decide_eq_true h)) (fun h=>hf (of_decide_eq_false h)) h hl
theorem uE{α:Type}[BEq α][LawfulBEq α](s:Nat)(x y:α)(ht:x=y→RW P ops n ds K l ((s,.bool true)::σ) w)(hf:x≠y→RW P ops n ds K l ((s,.bool false)::σ) w)
 (h:find σ s=some (.bool (x==y)):=by as_aux_lemma=>kernel_rfl)(hl:l.isEmpty=false:=by as_aux_lemma=>kernel_rfl):RW P ops n ds K l σ w:=
 uT s (x==y) (fun h=>ht (eq_of_beq h)) (fun h=>hf (ne_of_beq_false h)) h hl
theorem uS{k:List Item}{σ':Env}(h:WK P f n k σ' ds w R)(hσ:pick (σ'.map (·.1)) σ=σ'):WK P f n k σ ds w R:=
 WK.sub (pick_find σ _) (hσ.symm▸h)
theorem uB{k:List Item}{σ':Env}(h:WK P f n k σ' ds w R)(hσ:pick (σ'.map (·.1)) σ=σ':=by as_aux_lemma=>kernel_rfl):WK P f n k σ ds w R:=uS h hσ
theorem uL{α:Type}{p:List Nat}{g:FuncId}{c:Code}{k:List Item}(st:α→Env)(I:α→World→Prop)(μ:α→Nat)(x0:α)(h0:I x0 w)
 (hstep:∀x w,I x w→(∀x' w',I x' w'→μ x'<μ x→WK P f n (.inLoop (cd P g p)::k) (st x') ds w' R)→WK P f n (.code (cd P g p)::.inLoop (cd P g p)::k) (st x) ds w R)
 (hc:c=.loop (cd P g p):=by as_aux_lemma=>kernel_rfl)(hσ:pick ((st x0).map (·.1)) σ=st x0:=by as_aux_lemma=>kernel_rfl):
 WK P f n (.code c::k) σ ds w R:=uS (WK.loop hc st I μ x0 h0 rfl hstep) hσ
def kO(l:List (Nat×Kd)):Kd:=match l with
 |(_,κ)::_=>κ
 |[]=>.seq
def dO(ops:Array Oper)(l:List (Nat×Kd)):Option Tmp:=match l with
 |(i,_)::_=>match ops[i]? with
  |some o=>o.dst
  |none=>none
 |[]=>none
def vO(ops:Array Oper)(l:List (Nat×Kd))(σ:Env):Value:=match l with
 |(i,_)::_=>match ops[i]? with
  |some o=>match o.op with
   |.store _ _ v=>rho σ v
   |_=>undef
  |none=>undef
 |[]=>undef
def isQui:Kd→Bool
 |.qui=>true
 |_=>false
theorem qui_ne{κ:Kd}(h:isQui κ=false):κ≠.qui:=by
 intro e
 subst e
 cases h
theorem uV(T:TypeId)(k:Nat){b o:Nat}{cs:List Value}(hc:Cells w b o cs)(h:RW P ops n ds K l.tail (putO (dO ops l) ((loadE P T cs k).getD undef) σ) w)
 (hl:look P n ops l σ=some (kO l,semV (Instr.loadAt T (.pointer (some ⟨b,o+k,none⟩))),dO ops l,l.tail):=by as_aux_lemma=>kernel_rfl)(he:(loadE P T cs k).isSome=true:=by as_aux_lemma=>kernel_rfl):RW P ops n ds K l σ w:=by
 obtain⟨v,hv⟩:=Option.isSome_iff_exists.1 he
 rw[hv]at h
 exact RW.load hl hc rfl hv h
theorem uHV(T:TypeId)(k:Nat){b o:Nat}{cs:List Value}(hS:Chg w1 Bs w)(hc:Cells w1 b o cs)(hb:b∉Bs)(h:RH P ops n ds w1 Bs K l.tail (putO (dO ops l) ((loadE P T cs k).getD undef) σ) w)(hn:0<cs.length:=by simp)
 (hl:look P n ops l σ=some (.qui,semV (Instr.loadAt T (.pointer (some ⟨b,o+k,none⟩))),dO ops l,l.tail):=by as_aux_lemma=>kernel_rfl)(he:(loadE P T cs k).isSome=true:=by as_aux_lemma=>kernel_rfl):RH P ops n ds w1 Bs K l σ w:=by
 obtain⟨v,hv⟩:=Option.isSome_iff_exists.1 he
 rw[hv]at h
 exact RH.load hl hS hc hb hn rfl hv h
theorem nq0{b:Nat}:b∉([]:List Nat):=by simp
theorem uI(t:Int)(h:RW P ops n ds K l.tail (putO (dO ops l) (.int .i64 t) σ) w)(hb:-9223372036854775808≤t∧t≤9223372036854775807:=by omega)
 (hl:lookP P n ops l σ=some (kO l,.int .i64 (IntKind.i64.wrap t),dO ops l,l.tail):=by as_aux_lemma=>kernel_rfl):RW P ops n ds K l σ w:=RW.wr64 hl hb h
theorem uK{g:FuncId}{args:Array Value}{φ:Value→World→Prop}(hc:Calls P g args w (Ret fun v w'=>Ext w w'∧φ v w'))(hk:∀v w',Ext w w'→φ v w'→RW P ops n ds K l.tail (putO (dO ops l) v σ) w')
 (hl:lookC P n ops l σ=some (kO l,g,args,dO ops l,l.tail):=by as_aux_lemma=>kernel_rfl)(hκ:isQui (kO l)=false:=by as_aux_lemma=>kernel_rfl):RW P ops n ds K l σ w:=RW.call hl (qui_ne hκ) hc hk
theorem uKS{g:FuncId}{args:Array Value}{φ:Value→World→Prop}(hc:Calls P g args w (Ret φ))(hk:∀v w',φ v w'→RW P ops n ds K l.tail (putO (dO ops l) v σ) w')
 (hl:lookC P n ops l σ=some (.seq,g,args,dO ops l,l.tail):=by as_aux_lemma=>kernel_rfl):RW P ops n ds K l σ w:=RW.callS hl hc hk
section
variable{w0:World}{S:Nat→Prop}{O:List Nat}{M:Heap}{W:List OwnS}{G:List Fact}
theorem uX{α:Type}{sh:Shape α}{xs:List α}{x:α}{a:Option Addr}{len cap:Nat}(T:TypeId)(ix:Int)(H:Hp w0 S O M W G w)(g:Nat)(hg:G[g]?=some (Rp sh.slice [.slice a len cap] xs))(k:Nat)(hk:ix=(k:Int))(hx:xs[k]?=some x)
 (h:∀b o es,sh.rep (Av S w0 O (idsOf M W)) w es x→Hp w0 S O M W (Fc b o es::G) w→RW P ops n ds K l.tail (putO (dO ops l) (.pointer (some ⟨b,o,none⟩)) σ) w)
 (hl:look P n ops l σ=some (kO l,semV (Instr.indexAt T (.slice a len cap) (.int .i64 ix)),dO ops l,l.tail):=by as_aux_lemma=>kernel_rfl)(hT:sliceE P T=some (((sliceE P T).map (·.1)).getD 0,sh.size):=by as_aux_lemma=>kernel_rfl):RW P ops n ds K l σ w:=
 RW.index hl hT H g hg k hk hx h
theorem uC(c:Array Value)(T:TypeId)(H:Hp w0 S O M W G w)
 (hk:∀b w',Hp w0 S O ((b,.cells c T (0,0))::M) W G w'→RW P ops n ds K l.tail (putO (dO ops l) (.P b 0) σ) w')(hl:∀b,lookM P n ops l σ b=some (kO l,.cells c T (0,0),.P b 0,dO ops l,l.tail):=by exact(fun b=>by as_aux_lemma=>kernel_rfl))
 (hκ:isQui (kO l)=false:=by as_aux_lemma=>kernel_rfl):RW P ops n ds K l σ w:=RW.new hl (qui_ne hκ) H hk
theorem uW{T':TypeId}{b:Nat}{c:Array Value}(T:TypeId)(k:Nat)(c':Array Value)(H:Hp w0 S O M W G w)(i:Nat)(hm:M[i]?=some (b,.cells c T' (0,0)))
 (h:∀w',Hp w0 S O (M.set i (b,.cells c' T' (0,0))) W G w'→RW P ops n ds K l.tail (putO none undef σ) w')(hl:look P n ops l σ=some (.seq,semU (Instr.storeAt T (.pointer (some ⟨b,k,none⟩)) (vO ops l σ)),none,l.tail):=by as_aux_lemma=>kernel_rfl)
 (hs:storeE P T k (vO ops l σ) c=some c':=by as_aux_lemma=>kernel_rfl):RW P ops n ds K l σ w:=RW.store hl H i hm hs rfl h
theorem uA{α:Type}{sh:Shape α}{v:Value}{a2:Option Addr}{l2 c2:Nat}{e:TypeId}{xs ys:List α}(T ty:TypeId)(by_:Nat)(zs:List α)(H:Hp w0 S O M W G w)(i:Nat)(hi:W[i]?=some ⟨sh,e,v,xs⟩)(g:Nat)(hg:G[g]?=some (Rp sh.slice [.slice a2 l2 c2] ys))
 (hz:xs++ys=zs)(hby:zs.length*by_≤140737488355328∧zs.length≤9223372036854775807)
 (h:∀a c w',Hp w0 S O M (W.set i ⟨sh,e,.slice a zs.length c,zs⟩) G w'→zs.length≤c→RW P ops n ds K l.tail (putO (dO ops l) (.slice a zs.length c) σ) w')
 (hl:look P n ops l σ=some (.seq,semV (Builtin.append_ #[T,T] ty #[v,.slice a2 l2 c2]),dO ops l,l.tail):=by as_aux_lemma=>kernel_rfl)(hT:elemE P T=some (e,sh.size,by_,true):=by as_aux_lemma=>kernel_rfl):RW P ops n ds K l σ w:=
 RW.appendW hl hT rfl H i hi g hg hz hby h
theorem Hp.addR(H:Hp w0 S O M W G w){α:Type}{sh:Shape α}{cs:List Value}{x:α}(h:sh.rep (Av S w0 O (idsOf M W)) w cs x):Hp w0 S O M W (Rp sh cs x::G) w:=H.add h
theorem Hp.addM(H:Hp w0 S O M W G w){w':World}(he:Ext w w'){α:Type}{sh:Shape α}{cs:List Value}{x:α}(h:sh.rep (Nw (Av S w0 O (idsOf M W)) w) w' cs x):Hp w0 S O M W (Rp sh cs x::G) w':=H.addN he h
theorem Hp.addO{G':List Fact}(H':Hp w0 S O M W G' w1)(H:Hp w0 S O M W G w)(he:Ext w w1){α:Type}{sh:Shape α}{cs:List Value}{x:α}(h:sh.rep (Nw (Av S w0 O (idsOf M W)) w) w1 cs x):Hp w0 S O M W (Rp sh cs x::G') w1:=H'.add ((H.addN (F:=Rp sh cs x) he h).fact 0 rfl)
end
theorem uP(m:Nat)(hk:RW P ops n ds K (l.drop m) (eR P n ops m l σ) w)(h:(rrun P n ops m l σ).map (·.1)=some (l.drop m):=by as_aux_lemma=>kernel_rfl):RW P ops n ds K l σ w:=
 rrun_spec m l _ σ _ (eR_eq h) hk
theorem uHP(hS:Chg w1 Bs w)(m:Nat)(hk:RH P ops n ds w1 Bs K (l.drop m) (eR P n ops m l σ) w)(h:(rrun P n ops m l σ).map (·.1)=some (l.drop m):=by as_aux_lemma=>kernel_rfl):RH P ops n ds w1 Bs K l σ w:=
 rrunH_spec hS m l _ σ _ (eR_eq h) hk
end
theorem Hp.take{w0 w:World}{S:Nat→Prop}{O:List Nat}{M:Heap}{W:List OwnS}{G:List Fact}(H:Hp w0 S O M W G w)(n m:Nat):Hp w0 S O (M.take n) (W.take m) G w:=H.drop (List.take_sublist _ _) (List.take_sublist _ _)
end Go.BX

/-
 THE ENGINE: bits of numbers: a mask, a bit set above.
 No condition.
-/
namespace Go.BX
end Go.BX

/-
 THE ENGINE: equality of structs of plain values.
 No condition.
-/
namespace Go.BX
section
variable{P:Program}{n:Nat}{ds:List Deferred}{ops:Array Oper}{K:Env→World→Prop}{l r:List (Nat×Kd)}{σ:Env}{w:World}{κ:Kd}{d:Option Tmp}
end
end Go.BX

/-
 THE ENGINE's DEFERRED CALLS: a call that is put off, and made when the function returns; it turns nothing.
 No condition.
-/
namespace Go.BX
section
variable{P:Program}{f:FuncId}{n:Nat}{σ:Env}{ds ds':List Deferred}{w:World}{R:Ending→World→Prop}
def Idle(P:Program)(d:Deferred):Prop:=∃fv cap g args,d.target=.fn fv cap∧(∀w,(invoke d.target d.args).run P w=.ok (.enter g args) w)∧
 ∀w,CallsD P g args .returning w (fun e u' w'=>e=.returned (.tuple #[])∧u'=.returning∧w'=w)
theorem Idle.leaves{fn:Func}{tmps:Array Value}{d:Deferred}{v:Value}(hi:Idle P d)(hr:(results fn tmps).run P w=.ok v w)(h:R (.returned v) w):Leaves P fn tmps R [d] .returning w:=by
 obtain⟨fv,cap,g,args,a,b,c⟩:=hi
 refine⟨by simp,fv,cap,g,args,a,b w,(c w).mono ?_⟩
 rintro e u' w'⟨rfl,rfl,rfl⟩
 exact⟨v,hr,h⟩
end
end Go.BX

