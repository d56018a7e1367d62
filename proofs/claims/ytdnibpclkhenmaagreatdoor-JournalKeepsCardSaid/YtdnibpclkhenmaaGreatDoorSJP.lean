import Derived.Test.YtdnibpclkhenmaaGreatDoorSBxA
import Derived.Test.YtdnibpclkhenmaaGreatDoorSJL
namespace Go.Proofs.YtdnibpclkhenmaaGreatDoor
open Go.BX
section
variable{P:Program}{n:Nat}{ds:List Deferred}{ops:Array Oper}{K:Env→World→Prop}{l r:List (Nat×Kd)}{σ:Env}{w:World}{d:Option Tmp}{κ:Kd}
variable{w0:World}{S:Nat→Prop}{O:List Nat}{M:Heap}{W:List OwnS}{G:List Fact}
theorem RW.appendO{T ty e T':TypeId}{m by_:Nat}{α:Type}{sh:Shape α}{a0 a2:Option Addr}{l2 c2:Nat}{ys:List α}(hl:BX.look P n ops l σ=some (κ,semV (Builtin.append_ #[T,T] ty #[.slice a0 0 0,.slice a2 l2 c2]),d,r))(hκ:κ≠.qui)
 (ha:a0=none∨∃b0,a0=some ⟨b0,0,none⟩)(hT:elemE P T=some (e,m,by_,true))(hm:m=sh.size)(H:Hp w0 S O M (⟨sh,T',.slice a2 l2 c2,ys⟩::W) G w)
 (hby:ys.length*by_≤140737488355328)
 (h:∀a c w',Hp w0 S O M (⟨sh,T',.slice a2 l2 c2,ys⟩::W) (Rp sh.slice [.slice a ys.length c] ys::G) w'→RW P ops n ds K r (putO d (.slice a ys.length c) σ) w'):RW P ops n ds K l σ w:=by
 subst hm
 have hrp:=H.view 0 rfl
 obtain⟨rfl,hyc,hycm,hE⟩:= Shape.elems_of hrp
 obtain⟨hu, ti, z, hti, _, hts, _, _⟩:= elemE_spec hT
 by_cases hy : ys = []
 · subst hy
   exact RW.makeS hl hκ (semV_run (append_zero_run hu hti (Nat.le_refl _))) (Ext.refl w) (h a0 0 w (H.add ⟨a0, 0, rfl, Nat.le_refl _, Nat.zero_le _, fun i x hx => by simp at hx⟩))
 · obtain⟨b, o, news, rfl, hS, hnl, hnc, _, -⟩:= elems_flat hE hy
   have hnr : ∀i x,ys[i]?=some x→sh.rep (Av S w0 O (idsOf M (⟨sh,T',.slice (some ⟨b,o,none⟩) ys.length c2,ys⟩::W))) w ((news.drop (i*sh.size)).take sh.size) x:=fun i x hx=>by
    obtain⟨hi,rfl⟩:=List.getElem?_eq_some_iff.1 hx
    obtain⟨b',es,hb',hces,hres⟩:=H.ownCell i hi rfl
    simp only[Option.some.injEq,Addr.mk.injEq,and_true]at hb'
    obtain⟨rfl,rfl⟩:=hb'
    have hel:=sh.len hres
    have g:(news.drop (i*sh.size)).take sh.size=es:=by
     refine List.ext_getElem? fun j=>?_
     have hbd:(i+1)*sh.size≤ys.length*sh.size:= Nat.mul_le_mul_right _ hi
     rw[Nat.add_mul, Nat.one_mul]at hbd
     rcases Nat.lt_or_ge j es.length with hj | hj
     · have f : i * sh.size + j < news.length := by omega
       have p :=hces j _ (List.getElem?_eq_getElem hj)
       have s:=hnc (i*sh.size+j) _ (List.getElem?_eq_getElem f)
       rw[List.getElem?_take,if_pos (by omega),List.getElem?_drop,List.getElem?_eq_getElem f,List.getElem?_eq_getElem hj,←s,←p]
       simp
     ·rw[List.getElem?_take,if_neg (by omega),List.getElem?_eq_none hj]
    rw[g];exact hres
   have hpos:0<ys.length:=List.length_pos_iff.2 hy
   obtain⟨q,cc,hr,hcc,hccm⟩:=append_new_run (ty:=ty) (w:=w) (c:=c2) hT ha hpos hnl hnc (by unfold maxLen at hycm;omega) hby
   have he:Ext w (w.drew.alloc (.cells (news.toArray++q) e)):=⟨rfl,rfl,rfl,by simp,fun k hk=>by
    show(w.drew.heap.push _)[k]?=_
    rw[Array.getElem?_push,if_neg (by show¬k=w.heap.size;omega)];rfl⟩
   refine RW.makeS hl hκ (semV_run hr) he (h _ cc _ ((H.ext he).add ⟨_,cc,rfl,hcc,hccm,elems_of_flat (news:=news) ⟨.inr (.inl H.below.size),fun hid=>by have:=(H.ids_lt _ hid).1;omega⟩ (by rw[hnl];exact Nat.le_refl _) ?_ fun i x hx=>sh.step (hnr i x hx) fun k hk hlt=>⟨hk,Go.RowKit.Below.block he k hlt⟩⟩))
   have hblk:(w.drew.alloc (.cells (news.toArray++q) e)).heap[w.heap.size]?=some (.cells (news.toArray++q) e):=heap_alloc_new w.drew _
   intro j v hj
   refine(Cells.of_block hblk) j v ?_
   simp only[Array.toList_append]
   rw[List.getElem?_append_left (List.getElem?_eq_some_iff.1 hj).1];exact hj
end
def mayP(b t:Bs)(R0 L:List Bs)(torn:Bool)(base:Bs)(l:List Bs):Prop:=(torn=true∧l=[]∧base=t)∨(base=b∧R0<+:l∧l<+:R0++L)
theorem mayP.two{b t:Bs}{R0 L:List Bs}{torn:Bool}{base:Bs}{l:List Bs}(h:mayP b t R0 L torn base l)(hn:¬(torn=true∧l=[]∧base=t)):base=b∧R0<+:l∧l<+:R0++L:=h.resolve_left hn
theorem pre_at{α:Type}{a b:List α}(h:a<+:b){i:Nat}(hi:i<a.length)(hb:i<b.length):b[i]=a[i]:=by
 obtain⟨c,rfl⟩:=h
 exact List.getElem_append_left hi
theorem pre_at2{α:Type}{a r l:List α}(h:a<+:r++l){i:Nat}(hi:i<a.length)(hr:r.length≤i)(hl:i-r.length<l.length):a[i]=l[i-r.length]:=by
 have b:=pre_at h hi (by rw[List.length_append];omega)
 rw[←b,List.getElem_append_right hr]
theorem bk_app{S:Nat→Prop}{w:World}{O:List Nat}{bk:Nat}{B b t:List (BitVec 8)}{R R0 L:List (List (BitVec 8))}{aB aR ab a0 al at_:Option Addr}{cB cR cb c0 cl ct:Nat}{torn:Bool}{x:List (BitVec 8)}{ax:Option Addr}{cx:Nat}(hRl:R.length≤1000000)(hLl:L.length≤1000000)(H0:Hp w S O [(bk,.cells #[.slice aB B.length cB,.slice aR R.length cR,.slice ab b.length cb,.slice a0 R0.length c0,.slice al L.length cl,.bool torn,.slice at_ t.length ct] 50 (0,0))] [⟨SB,23,.slice aR R.length cR,R⟩,⟨SB,23,.slice al L.length cl,L⟩] [Rp SB [.slice aB B.length cB] B,Rp SB [.slice ab b.length cb] b,Rp SB [.slice at_ t.length ct] t,Rp (Shape.slice SB) [.slice a0 R0.length c0] R0,Rp SB [.slice ax x.length cx] x] w):
 Calls Tryz.prog 61 #[.P bk 0,.slice ax x.length cx,.bool true] w (Ret fun v w'=>v=.tuple #[]∧∃(aR':Option Addr)(cR':Nat)(al':Option Addr)(cl':Nat),Hp w S O [(bk,.cells #[.slice aB B.length cB,.slice aR' (R++[x]).length cR',.slice ab b.length cb,.slice a0 R0.length c0,.slice al' (L++[x]).length cl',.bool torn,.slice at_ t.length ct] 50 (0,0))] [⟨SB,23,.slice aR' (R++[x]).length cR',(R++[x])⟩,⟨SB,23,.slice al' (L++[x]).length cl',(L++[x])⟩] [Rp SB [.slice aB B.length cB] B,Rp SB [.slice ab b.length cb] b,Rp SB [.slice at_ t.length ct] t,Rp (Shape.slice SB) [.slice a0 R0.length c0] R0] w'):=by
 refine uS1 Tryz.func61 ?_
 have H:=H0
 refine uR 1 [.c [0],.c [1]] ?_
 refine qG (sq 0 11) ?_
 refine uP 4 ?_
 refine uV 22 4 (H.cells 0 rfl) ?_
 refine uP 1 ?_
 refine RW.new (κ:=.seq) (d:=some 12) (r:=(sq 7 11)) (o:=.cells #[.slice ax x.length cx] 23 (0,0)) (v:=fun b=>.slice (some ⟨b,0,none⟩) 1 1) (fun b=>by as_aux_lemma=>kernel_rfl) (nofun) H ?_
 intro h _ H
 have H:=H.freeze 0 rfl SB ([x]:List (List (BitVec 8))) 1 (by simp[maxLen]) (by first|exact Nat.le_refl _|simp) (EsP.cons (c:=[.slice ax x.length cx]) (H.rp 4 rfl) EsP.nil)
 have H:Hp w S O [_] [_,_] [Rp (Shape.slice SB) [.slice (some ⟨h,0,none⟩) 1 1] ([x]:List (List (BitVec 8))),_,_,_,_,_] _:=H
 refine uA 22 22 24 (L++[x]) H 1 rfl 0 rfl (rfl) (by rw[List.length_append];simp only[List.length_cons,List.length_nil];omega) ?_
 intro f g _ H _
 have H:Hp w S O [_] [_,⟨SB,23,.slice f (L++[x]).length g,(L++[x])⟩] [_,_,_,_,_,_] _:=H
 refine uP 2 ?_
 refine uW 22 4 #[.slice aB B.length cB,.slice aR R.length cR,.slice ab b.length cb,.slice a0 R0.length c0,.slice f (L++[x]).length g,.bool torn,.slice at_ t.length ct] H 0 rfl ?_
 intro _ H
 refine uF 0 ?_
 refine uR 3 [.c [2,0]] ?_
 refine qG (sq 0 11) ?_
 refine uP 4 ?_
 refine uV 22 1 (H.cells 0 rfl) ?_
 refine uP 1 ?_
 refine RW.new (κ:=.seq) (d:=some 23) (r:=(sq 7 11)) (o:=.cells #[.slice ax x.length cx] 23 (0,0)) (v:=fun b=>.slice (some ⟨b,0,none⟩) 1 1) (fun b=>by as_aux_lemma=>kernel_rfl) (nofun) H ?_
 intro i _ H
 have H:=H.freeze 0 rfl SB ([x]:List (List (BitVec 8))) 1 (by simp[maxLen]) (by first|exact Nat.le_refl _|simp) (EsP.cons (c:=[.slice ax x.length cx]) (H.rp 5 rfl) EsP.nil)
 have H:Hp w S O [_] [_,_] [Rp (Shape.slice SB) [.slice (some ⟨i,0,none⟩) 1 1] ([x]:List (List (BitVec 8))),_,_,_,_,_,_] _:=H
 refine uA 22 22 24 (R++[x]) H 0 rfl 0 rfl (rfl) (by rw[List.length_append];simp only[List.length_cons,List.length_nil];omega) ?_
 intro a e _ H _
 have H:Hp w S O [_] [⟨SB,23,.slice a (R++[x]).length e,(R++[x])⟩,_] [_,_,_,_,_,_,_] _:=H
 refine uP 2 ?_
 refine uW 22 1 #[.slice aB B.length cB,.slice a (R++[x]).length e,.slice ab b.length cb,.slice a0 R0.length c0,.slice f (L++[x]).length g,.bool torn,.slice at_ t.length ct] H 0 rfl ?_
 intro _ H
 refine uF 0 ?_
 refine WK.fin (v:=.tuple #[]) Tryz.func61 (by as_aux_lemma=>kernel_rfl) ?_
 have H:=H.pick [2,3,4,5] rfl
 exact⟨_,rfl,rfl,_,_,_,_,H⟩
theorem bk_apf{S:Nat→Prop}{w:World}{O:List Nat}{bk:Nat}{B b t:List (BitVec 8)}{R R0 L:List (List (BitVec 8))}{aB aR ab a0 al at_:Option Addr}{cB cR cb c0 cl ct:Nat}{torn:Bool}{x:List (BitVec 8)}{ax:Option Addr}{cx:Nat}(hRl:R.length≤1000000)(hLl:L.length≤1000000)(H0:Hp w S O [(bk,.cells #[.slice aB B.length cB,.slice aR R.length cR,.slice ab b.length cb,.slice a0 R0.length c0,.slice al L.length cl,.bool torn,.slice at_ t.length ct] 50 (0,0))] [⟨SB,23,.slice aR R.length cR,R⟩,⟨SB,23,.slice al L.length cl,L⟩] [Rp SB [.slice aB B.length cB] B,Rp SB [.slice ab b.length cb] b,Rp SB [.slice at_ t.length ct] t,Rp (Shape.slice SB) [.slice a0 R0.length c0] R0,Rp SB [.slice ax x.length cx] x] w):
 Calls Tryz.prog 61 #[.P bk 0,.slice ax x.length cx,.bool false] w (Ret fun v w'=>v=.tuple #[]∧∃(al':Option Addr)(cl':Nat),Hp w S O [(bk,.cells #[.slice aB B.length cB,.slice aR R.length cR,.slice ab b.length cb,.slice a0 R0.length c0,.slice al' (L++[x]).length cl',.bool torn,.slice at_ t.length ct] 50 (0,0))] [⟨SB,23,.slice aR R.length cR,R⟩,⟨SB,23,.slice al' (L++[x]).length cl',(L++[x])⟩] [Rp SB [.slice aB B.length cB] B,Rp SB [.slice ab b.length cb] b,Rp SB [.slice at_ t.length ct] t,Rp (Shape.slice SB) [.slice a0 R0.length c0] R0] w'):=by
 refine uS1 Tryz.func61 ?_
 have H:=H0
 refine uR 1 [.c [0],.c [1]] ?_
 refine qG (sq 0 11) ?_
 refine uP 4 ?_
 refine uV 22 4 (H.cells 0 rfl) ?_
 refine uP 1 ?_
 refine RW.new (κ:=.seq) (d:=some 12) (r:=(sq 7 11)) (o:=.cells #[.slice ax x.length cx] 23 (0,0)) (v:=fun b=>.slice (some ⟨b,0,none⟩) 1 1) (fun b=>by as_aux_lemma=>kernel_rfl) (nofun) H ?_
 intro f _ H
 have H:=H.freeze 0 rfl SB ([x]:List (List (BitVec 8))) 1 (by simp[maxLen]) (by first|exact Nat.le_refl _|simp) (EsP.cons (c:=[.slice ax x.length cx]) (H.rp 4 rfl) EsP.nil)
 have H:Hp w S O [_] [_,_] [Rp (Shape.slice SB) [.slice (some ⟨f,0,none⟩) 1 1] ([x]:List (List (BitVec 8))),_,_,_,_,_] _:=H
 refine uA 22 22 24 (L++[x]) H 1 rfl 0 rfl (rfl) (by rw[List.length_append];simp only[List.length_cons,List.length_nil];omega) ?_
 intro a e _ H _
 have H:Hp w S O [_] [_,⟨SB,23,.slice a (L++[x]).length e,(L++[x])⟩] [_,_,_,_,_,_] _:=H
 refine uP 2 ?_
 refine uW 22 4 #[.slice aB B.length cB,.slice aR R.length cR,.slice ab b.length cb,.slice a0 R0.length c0,.slice a (L++[x]).length e,.bool torn,.slice at_ t.length ct] H 0 rfl ?_
 intro _ H
 refine uF 0 ?_
 refine uR 4 [] ?_
 refine WK.fin (v:=.tuple #[]) Tryz.func61 (by as_aux_lemma=>kernel_rfl) ?_
 have H:=H.pick [1,2,3,4] rfl
 exact⟨_,rfl,rfl,_,_,H⟩
theorem bk_syn{S:Nat→Prop}{w:World}{O:List Nat}{bk:Nat}{B b t:List (BitVec 8)}{R R0 L:List (List (BitVec 8))}{aB aR ab a0 al at_:Option Addr}{cB cR cb c0 cl ct:Nat}{torn:Bool}(hRl:R.length≤1000000)(hLl:L.length≤1000000)(H0:Hp w S O [(bk,.cells #[.slice aB B.length cB,.slice aR R.length cR,.slice ab b.length cb,.slice a0 R0.length c0,.slice al L.length cl,.bool torn,.slice at_ t.length ct] 50 (0,0))] [⟨SB,23,.slice aR R.length cR,R⟩,⟨SB,23,.slice al L.length cl,L⟩] [Rp SB [.slice aB B.length cB] B,Rp SB [.slice ab b.length cb] b,Rp SB [.slice at_ t.length ct] t,Rp (Shape.slice SB) [.slice a0 R0.length c0] R0] w):
 Calls Tryz.prog 62 #[.P bk 0] w (Ret fun v w'=>v=.tuple #[]∧∃(a0':Option Addr)(c0':Nat),Hp w S O [(bk,.cells #[.slice aB B.length cB,.slice aR R.length cR,.slice aB B.length cB,.slice a0' R.length c0',.slice none (([]:List (List (BitVec 8))).length) 0,.bool false,.slice at_ t.length ct] 50 (0,0))] [⟨SB,23,.slice aR R.length cR,R⟩,⟨SB,23,.slice none (([]:List (List (BitVec 8))).length) 0,([]:List (List (BitVec 8)))⟩] [Rp SB [.slice aB B.length cB] B,Rp SB [.slice aB B.length cB] B,Rp SB [.slice at_ t.length ct] t,Rp (Shape.slice SB) [.slice a0' R.length c0'] R] w'):=by
 refine uS1 Tryz.func62 ?_
 have H:=H0
 refine uR 1 [.c [0],.c [1]] ?_
 refine qG (sq 0 8) ?_
 refine uP 4 ?_
 refine uV 23 0 (H.cells 0 rfl) ?_
 refine uP 2 ?_
 refine uW 23 2 #[.slice aB B.length cB,.slice aR R.length cR,.slice aB B.length cB,.slice a0 R0.length c0,.slice al L.length cl,.bool torn,.slice at_ t.length ct] H 0 rfl ?_
 intro _ H
 refine uF 0 ?_
 refine uR 1 [.c [1,0],.c [2]] ?_
 refine qG (sq 0 10) ?_
 refine uP 1 ?_
 refine RW.new (κ:=.seq) (d:=some 10) (r:=(sq 2 10)) (o:=.cells #[] 23 (0,0)) (v:=fun b=>.slice (some ⟨b,0,none⟩) 0 0) (fun b=>by as_aux_lemma=>kernel_rfl) (nofun) H ?_
 intro g _ H
 refine uP 3 ?_
 refine uV 22 1 (H.cells 1 rfl) ?_
 refine RW.appendO (κ:=.seq) (d:=some 15) (r:=(sq 7 10)) (T:=22) (ty:=22) (e:=23) (m:=1) (by_:=24) (a0:=(some ⟨g,0,none⟩)) (a2:=aR) (l2:=R.length) (c2:=cR) (by as_aux_lemma=>kernel_rfl) (nofun) (.inr ⟨_,rfl⟩) (by as_aux_lemma=>kernel_rfl) rfl H (by omega) ?_
 intro a f _ H
 have H:Hp w S O [(g,.cells #[] 23 (0,0)),_] [_,_] [Rp (Shape.slice SB) [.slice a R.length f] R,_,_,_,_] _:=H
 refine uP 2 ?_
 refine uW 22 3 #[.slice aB B.length cB,.slice aR R.length cR,.slice aB B.length cB,.slice a R.length f,.slice al L.length cl,.bool torn,.slice at_ t.length ct] H 1 rfl ?_
 intro _ H
 refine uF 0 ?_
 refine uR 1 [.c [2,0],.c [3]] ?_
 refine qG (sq 0 4) ?_
 refine qP 3 (sq 3 4) [(0,.P bk 0),(20,.P bk 4)] ?_
 refine uW 22 4 #[.slice aB B.length cB,.slice aR R.length cR,.slice aB B.length cB,.slice a R.length f,.slice none 0 0,.bool torn,.slice at_ t.length ct] H 1 rfl ?_
 intro _ H
 refine uF 0 ?_
 refine qG (sq 0 4) ?_
 refine uP 3 ?_
 refine uW 4 5 #[.slice aB B.length cB,.slice aR R.length cR,.slice aB B.length cB,.slice a R.length f,.slice none 0 0,.bool false,.slice at_ t.length ct] H 1 rfl ?_
 intro _ H
 refine uF 0 ?_
 refine WK.fin (v:=.tuple #[]) Tryz.func62 (by as_aux_lemma=>kernel_rfl) ?_
 have H:=H.ownNil SB 23
 have H:Hp w S O [_,_] [⟨SB,23,.slice none 0 0,([]:List (List (BitVec 8)))⟩,_,_] [_,_,_,_,_] _:=H
 have H:=H.pick [1,1,3,0] rfl
 have H:=H.frontM 1 rfl
 have H:=H.frontW 1 rfl
 have H:=H.take 1 2
 exact⟨_,rfl,rfl,_,_,H⟩
theorem bk_tuy{S:Nat→Prop}{w:World}{O:List Nat}{bk:Nat}{B b t:List (BitVec 8)}{R R0 L:List (List (BitVec 8))}{aB aR ab a0 al at_:Option Addr}{cB cR cb c0 cl ct:Nat}{torn:Bool}{x:List (BitVec 8)}{ax:Option Addr}{cx:Nat}(hRl:R.length≤1000000)(hLl:L.length≤1000000)(H0:Hp w S O [(bk,.cells #[.slice aB B.length cB,.slice aR R.length cR,.slice ab b.length cb,.slice a0 R0.length c0,.slice al L.length cl,.bool torn,.slice at_ t.length ct] 50 (0,0))] [⟨SB,23,.slice aR R.length cR,R⟩,⟨SB,23,.slice al L.length cl,L⟩] [Rp SB [.slice aB B.length cB] B,Rp SB [.slice ab b.length cb] b,Rp SB [.slice at_ t.length ct] t,Rp (Shape.slice SB) [.slice a0 R0.length c0] R0,Rp SB [.slice ax x.length cx] x] w):
 Calls Tryz.prog 63 #[.P bk 0,.slice ax x.length cx,.bool true] w (Ret fun v w'=>v=.tuple #[]∧∃(a0':Option Addr)(c0':Nat),Hp w S O [(bk,.cells #[.slice ax x.length cx,.slice none (([]:List (List (BitVec 8))).length) 0,.slice ax x.length cx,.slice a0' (([]:List (List (BitVec 8))).length) c0',.slice none (([]:List (List (BitVec 8))).length) 0,.bool false,.slice at_ t.length ct] 50 (0,0))] [⟨SB,23,.slice none (([]:List (List (BitVec 8))).length) 0,([]:List (List (BitVec 8)))⟩,⟨SB,23,.slice none (([]:List (List (BitVec 8))).length) 0,([]:List (List (BitVec 8)))⟩] [Rp SB [.slice ax x.length cx] x,Rp SB [.slice ax x.length cx] x,Rp SB [.slice at_ t.length ct] t,Rp (Shape.slice SB) [.slice a0' (([]:List (List (BitVec 8))).length) c0'] ([]:List (List (BitVec 8)))] w'):=by
 refine uS1 Tryz.func63 ?_
 have H:=H0
 refine uR 5 [.c [0,1,0,0],.c [0,1,0,1],.c [1]] ?_
 refine qG (sq 0 5) ?_
 refine uP 4 ?_
 refine uW 23 0 #[.slice ax x.length cx,.slice aR R.length cR,.slice ab b.length cb,.slice a0 R0.length c0,.slice al L.length cl,.bool torn,.slice at_ t.length ct] H 0 rfl ?_
 intro _ H
 refine uF 0 ?_
 refine uR 1 [.c [0,1,0,1,0],.c [0,1,0,2],.c [1]] ?_
 refine qG (sq 0 4) ?_
 refine uP 3 ?_
 refine uW 22 1 #[.slice ax x.length cx,.slice none 0 0,.slice ab b.length cb,.slice a0 R0.length c0,.slice al L.length cl,.bool torn,.slice at_ t.length ct] H 0 rfl ?_
 intro _ H
 refine uF 0 ?_
 refine uR 1 [.c [0,1,0,2,0],.c [0,1,0,3],.c [1]] ?_
 refine qG (sq 0 2) ?_
 refine uP 1 ?_
 have H:=H.ownNil SB 23
 have H:Hp w S O [(bk,.cells #[.slice ax x.length cx,.slice none (([]:List (List (BitVec 8))).length) 0,.slice ab b.length cb,.slice a0 R0.length c0,.slice al L.length cl,.bool torn,.slice at_ t.length ct] 50 (0,0))] [_,_,_] [_,_,_,_,_] _:=H
 have H:=H.frontW 2 rfl
 have H:=H.frontW 1 rfl
 refine uKS (bk_syn (Nat.zero_le _) hLl ((H.lend (M1:=[_]) (W1:=[_,_])).pick [4,1,2,3] rfl)) ?_
 rintro _ _⟨rfl,a,d,H'⟩
 have H:=H.back (M1:=[_]) (W1:=[_,_]) H'
 have H:Hp w S O [(bk,.cells #[.slice ax x.length cx,.slice none (([]:List (List (BitVec 8))).length) 0,.slice ax x.length cx,.slice a (([]:List (List (BitVec 8))).length) d,.slice none (([]:List (List (BitVec 8))).length) 0,.bool false,.slice at_ t.length ct] 50 (0,0))] [_,_,_] [_,_,_,Rp (Shape.slice SB) [.slice a (([]:List (List (BitVec 8))).length) d] ([]:List (List (BitVec 8))),_,_,_,_,_] _:=H
 refine uF 0 ?_
 refine qT (.tuple #[]) Tryz.func63 ?_
 have H:=H.pick [0,0,2,3] rfl
 have H:=H.dropW 2
 exact⟨_,rfl,rfl,_,_,H⟩
theorem bk_tun{S:Nat→Prop}{w:World}{O:List Nat}{bk:Nat}{B b t:List (BitVec 8)}{R R0 L:List (List (BitVec 8))}{aB aR ab a0 al at_:Option Addr}{cB cR cb c0 cl ct:Nat}{torn:Bool}{x:List (BitVec 8)}{ax:Option Addr}{cx:Nat}(H0:Hp w S O [(bk,.cells #[.slice aB B.length cB,.slice aR R.length cR,.slice ab b.length cb,.slice a0 R0.length c0,.slice al L.length cl,.bool torn,.slice at_ t.length ct] 50 (0,0))] [⟨SB,23,.slice aR R.length cR,R⟩,⟨SB,23,.slice al L.length cl,L⟩] [Rp SB [.slice aB B.length cB] B,Rp SB [.slice ab b.length cb] b,Rp SB [.slice at_ t.length ct] t,Rp (Shape.slice SB) [.slice a0 R0.length c0] R0,Rp SB [.slice ax x.length cx] x] w):
 Calls Tryz.prog 63 #[.P bk 0,.slice ax x.length cx,.bool false] w (Ret fun v w'=>v=.tuple #[]∧Hp w S O [(bk,.cells #[.slice aB B.length cB,.slice aR R.length cR,.slice ab b.length cb,.slice a0 R0.length c0,.slice al L.length cl,.bool true,.slice ax x.length cx] 50 (0,0))] [⟨SB,23,.slice aR R.length cR,R⟩,⟨SB,23,.slice al L.length cl,L⟩] [Rp SB [.slice aB B.length cB] B,Rp SB [.slice ab b.length cb] b,Rp SB [.slice ax x.length cx] x,Rp (Shape.slice SB) [.slice a0 R0.length c0] R0] w'):=by
 refine uS1 Tryz.func63 ?_
 have H:=H0
 refine uR 6 [.c [1,0],.c [2]] ?_
 refine qG (sq 0 4) ?_
 refine uP 3 ?_
 refine uW 4 5 #[.slice aB B.length cB,.slice aR R.length cR,.slice ab b.length cb,.slice a0 R0.length c0,.slice al L.length cl,.bool true,.slice at_ t.length ct] H 0 rfl ?_
 intro _ H
 refine uF 0 ?_
 refine qG (sq 0 5) ?_
 refine uP 4 ?_
 refine uW 23 6 #[.slice aB B.length cB,.slice aR R.length cR,.slice ab b.length cb,.slice a0 R0.length c0,.slice al L.length cl,.bool true,.slice ax x.length cx] H 0 rfl ?_
 intro _ H
 refine uF 0 ?_
 refine WK.fin (v:=.tuple #[]) Tryz.func63 (by as_aux_lemma=>kernel_rfl) ?_
 have H:=H.pick [0,1,4,3] rfl
 exact⟨_,rfl,rfl,H⟩
theorem bk_has{S:Nat→Prop}{w:World}{O:List Nat}{bk:Nat}{B b t:List (BitVec 8)}{R R0 L:List (List (BitVec 8))}{aB aR ab a0 al at_:Option Addr}{cB cR cb c0 cl ct:Nat}{torn:Bool}{x:List (BitVec 8)}{ax:Option Addr}{cx:Nat}{l:List (List (BitVec 8))}{ay:Option Addr}{cy:Nat}(hRl:R.length≤1000000)(hLl:L.length≤1000000)(hxB:x=B)(hlR:l=R)(H0:Hp w S O [(bk,.cells #[.slice aB B.length cB,.slice aR R.length cR,.slice ab b.length cb,.slice a0 R0.length c0,.slice al L.length cl,.bool torn,.slice at_ t.length ct] 50 (0,0))] [⟨SB,23,.slice aR R.length cR,R⟩,⟨SB,23,.slice al L.length cl,L⟩] [Rp SB [.slice aB B.length cB] B,Rp SB [.slice ab b.length cb] b,Rp SB [.slice at_ t.length ct] t,Rp (Shape.slice SB) [.slice a0 R0.length c0] R0,Rp SB [.slice ax x.length cx] x,Rp (Shape.slice SB) [.slice ay l.length cy] l] w):
 Calls Tryz.prog 24 #[.P bk 0,.slice ax x.length cx,.slice ay l.length cy] w (Ret fun v w'=>v=.bool true∧Hp w S O [(bk,.cells #[.slice aB B.length cB,.slice aR R.length cR,.slice ab b.length cb,.slice a0 R0.length c0,.slice al L.length cl,.bool torn,.slice at_ t.length ct] 50 (0,0))] [⟨SB,23,.slice aR R.length cR,R⟩,⟨SB,23,.slice al L.length cl,L⟩] [Rp SB [.slice aB B.length cB] B,Rp SB [.slice ab b.length cb] b,Rp SB [.slice at_ t.length ct] t,Rp (Shape.slice SB) [.slice a0 R0.length c0] R0] w'):=by
 have A:l.length=R.length:=by rw[hlR]
 refine uS1 Tryz.func24 ?_
 have H:=H0
 refine uR 4 [.c [1,0,0],.c [1,0,1],.c [2]] ?_
 refine qG (sq 0 17) ?_
 refine uP 4 ?_
 refine uV 23 0 (H.cells 0 rfl) ?_
 refine uK (same01N (xs:=x) (ys:=B) (H.rp 4 rfl) (H.rp 0 rfl)) ?_
 rintro _ _ s rfl
 have H:=H.ext s
 rw[sameB_eq (hxB)]
 refine uP 7 ?_
 refine uV 22 1 (H.cells 0 rfl) ?_
 refine uF 3 ?_
 refine qN ((l.length:Nat):Int) ((R.length:Nat):Int) (fun u=>?_) (fun u=>?_)
 ·
  exact absurd (by rw[hlR]) u
 ·
  refine uR 5 [.c [2,0,1,0],.b 0,.c [3]] ?_
  refine uL (α:=Nat) (g:=24) (p:=[2,0,1,0,0]) (fun i=>[(0,.P bk 0),(2,.slice ay l.length cy),(7,.I i)]) (fun i w'=>Hp w S O [(bk,.cells #[.slice aB B.length cB,.slice aR R.length cR,.slice ab b.length cb,.slice a0 R0.length c0,.slice al L.length cl,.bool torn,.slice at_ t.length ct] 50 (0,0))] [⟨SB,23,.slice aR R.length cR,R⟩,⟨SB,23,.slice al L.length cl,L⟩] [Rp SB [.slice aB B.length cB] B,Rp SB [.slice ab b.length cb] b,Rp SB [.slice at_ t.length ct] t,Rp (Shape.slice SB) [.slice a0 R0.length c0] R0,Rp SB [.slice ax x.length cx] x,Rp (Shape.slice SB) [.slice ay l.length cy] l] w'∧i≤l.length) (fun i=>l.length-i) 0 ⟨H,Nat.zero_le _⟩ ?_
  rintro i y⟨H,hi⟩h
  refine uR 3 [.c [2,0,1,0,0,0,1],.c [2,0,1,0,0,1],.l [2,0,1,0,0],.b 0,.c [3]] ?_
  refine qD (((i:Int):Int)<((l.length:Nat):Int)) (fun C=>?_) (fun C=>?_)
  ·
   refine uR 4 [.c [2,0,1,0,0,1,0,0,0],.c [2,0,1,0,0,1,0,0,1],.b 1,.c [2,0,1,0,0,2],.l [2,0,1,0,0],.b 0,.c [3]] ?_
   refine WK.draw1 13 [(0,.qui),(1,.qui),(2,.qui),(3,.qui),(4,.qui),(5,.qui),(6,.qui),(7,.qui),(8,.qui),(9,.qui),(10,.qui),(11,.chn),(12,.qui)] [(0,.qui),(1,.qui),(2,.qui),(3,.qui),(4,.qui),(5,.qui),(6,.qui),(7,.qui),(8,.qui),(9,.qui),(10,.qui),(11,.chn),(12,.qui)] Tryz_mixed (by as_aux_lemma=>kernel_rfl) (by as_aux_lemma=>kernel_rfl) (by as_aux_lemma=>kernel_rfl) ?_
   have H:=H.draw
   generalize({y with drawn:=y.drawn+1}:World)=D at H⊢
   refine uP 2 ?_
   have z:i<l.length:=by omega
   refine uX 22 (i:Int) H 5 rfl i (by omega) (List.getElem?_eq_getElem z) ?_
   intro _ _ _ j H
   obtain⟨_,_,rfl⟩:=Shape.slice_form' j
   have H:=H.addR j
   refine uV 23 0 (H.fc 1 rfl) ?_
   refine uP 3 ?_
   refine uV 22 1 (H.cells 0 rfl) ?_
   refine uP 1 ?_
   have n:R.length=R.length:=rfl
   have o:i<R.length:=by omega
   refine RW.indexW (κ:=.qui) (d:=some 40) (r:=[(10,.qui),(11,.chn),(12,.qui)]) (T:=22) (e:=23) (m:=1) (ik:=.i64) (ix:=(i:Int)) (sh:=SB) (xs:=R) (a:=aR) (len:=R.length) (cap:=cR) (by as_aux_lemma=>kernel_rfl) (by as_aux_lemma=>kernel_rfl) rfl H i (by omega) o n ?_
   intro _ _ _ f k
   obtain⟨_,_,rfl⟩:=Shape.slice_form' k
   have H:=H.addR k
   refine uV 23 0 f ?_
   refine uK (same01N (xs:=l[i]) (ys:=R[i]) (H.rp 1 rfl) (H.rp 0 rfl)) ?_
   rintro _ _ q rfl
   have H:=H.ext q
   rw[sameB_eq (List.getElem_of_eq hlR (by omega))]
   refine uF 1 ?_
   refine uR 3 [.c [2,0,1,0,0,2],.l [2,0,1,0,0],.b 0,.c [3]] ?_
   refine qG (sq 0 3) ?_
   refine uP 1 ?_
   refine uI ((i:Int)+1) ?_
   refine uF 1 ?_
   have H:=H.pick [3,4,5,6,7,8] rfl
   exact uB (h (i+1) _ ⟨H,by omega⟩ (by first|omega|(simp only[];omega)))
  ·
   refine uR 3 [.c [4]] ?_
   refine qT (.bool true) Tryz.func24 ?_
   have H:=H.pick [0,1,2,3] rfl
   exact⟨_,rfl,rfl,H⟩
theorem bk_may{S:Nat→Prop}{w:World}{O:List Nat}{bk:Nat}{B b t:List (BitVec 8)}{R R0 L:List (List (BitVec 8))}{aB aR ab a0 al at_:Option Addr}{cB cR cb c0 cl ct:Nat}{torn:Bool}{x:List (BitVec 8)}{ax:Option Addr}{cx:Nat}{l:List (List (BitVec 8))}{ay:Option Addr}{cy:Nat}(hRl:R.length≤1000000)(hLl:L.length≤1000000)(hm:mayP b t R0 L torn x l)(hR0:R0.length≤1000000)(H0:Hp w S O [(bk,.cells #[.slice aB B.length cB,.slice aR R.length cR,.slice ab b.length cb,.slice a0 R0.length c0,.slice al L.length cl,.bool torn,.slice at_ t.length ct] 50 (0,0))] [⟨SB,23,.slice aR R.length cR,R⟩,⟨SB,23,.slice al L.length cl,L⟩] [Rp SB [.slice aB B.length cB] B,Rp SB [.slice ab b.length cb] b,Rp SB [.slice at_ t.length ct] t,Rp (Shape.slice SB) [.slice a0 R0.length c0] R0,Rp SB [.slice ax x.length cx] x,Rp (Shape.slice SB) [.slice ay l.length cy] l] w):
 Calls Tryz.prog 67 #[.P bk 0,.slice ax x.length cx,.slice ay l.length cy] w (Ret fun v w'=>v=.bool true∧Hp w S O [(bk,.cells #[.slice aB B.length cB,.slice aR R.length cR,.slice ab b.length cb,.slice a0 R0.length c0,.slice al L.length cl,.bool torn,.slice at_ t.length ct] 50 (0,0))] [⟨SB,23,.slice aR R.length cR,R⟩,⟨SB,23,.slice al L.length cl,L⟩] [Rp SB [.slice aB B.length cB] B,Rp SB [.slice ab b.length cb] b,Rp SB [.slice at_ t.length ct] t,Rp (Shape.slice SB) [.slice a0 R0.length c0] R0] w'):=by
 refine uS1 Tryz.func67 ?_
 have H:=H0
 refine uR 4 [.c [1,0,0],.c [1,0,1],.c [2]] ?_
 refine WK.joinV (α:=Nat) (fun x_ w_=>match x_ with|F=>Hp w S O [(bk,.cells #[.slice aB B.length cB,.slice aR R.length cR,.slice ab b.length cb,.slice a0 R0.length c0,.slice al L.length cl,.bool torn,.slice at_ t.length ct] 50 (0,0))] [⟨SB,23,.slice aR R.length cR,R⟩,⟨SB,23,.slice al L.length cl,L⟩] [Rp SB [.slice aB B.length cB] B,Rp SB [.slice ab b.length cb] b,Rp SB [.slice at_ t.length ct] t,Rp (Shape.slice SB) [.slice a0 R0.length c0] R0,Rp SB [.slice ax x.length cx] x,Rp (Shape.slice SB) [.slice ay l.length cy] l] w_∧x=b∧R0<+:l∧l<+:R0++L) (fun x_=>match x_ with|F=>[(0,.P bk 0),(1,.slice ax x.length cx),(2,.slice ay l.length cy)]) [Cq Tryz.prog 67 [2]] (fun j=>?_) ?_
 ·
  refine qG (sq 0 17) ?_
  refine uP 3 ?_
  refine uV 4 5 (H.cells 0 rfl) ?_
  refine uP 1 ?_
  refine uT 14 torn (fun U=>?_) (fun U=>?_)
  ·
   refine uP 5 ?_
   refine uE 19 ((l.length:Nat):Int) 0 (fun V=>?_) (fun V=>?_)
   ·
    refine uP 4 ?_
    refine uV 23 6 (H.cells 0 rfl) ?_
    refine uK (same01N (xs:=x) (ys:=t) (H.rp 4 rfl) (H.rp 2 rfl)) ?_
    rintro _ _ G rfl
    have H:=H.ext G
    refine uF 1 ?_
    refine qC (sameB x t) (fun W=>?_) (fun W=>?_)
    ·
     refine uR 2 [.c [1,0,1,0,1],.c [2]] ?_
     refine qT (.bool true) Tryz.func67 ?_
     have H:=H.pick [0,1,2,3] rfl
     exact⟨_,rfl,rfl,H⟩
    ·
     refine uR 1 [.c [2]] ?_
     exact uB (j (0) _ ⟨H,hm.two (by rintro⟨q1,q2,q3⟩;first|exact absurd q1 (by rw[‹torn=false›];nofun)|exact absurd (show((l.length:Nat):Int)=0 by rw[q2];rfl) (by assumption)|exact absurd (sameB_eq q3) (by rw[‹sameB x t=false›];nofun))⟩)
   ·
    refine uF 7 ?_
    refine uR 2 [.c [2]] ?_
    exact uB (j (0) _ ⟨H,hm.two (by rintro⟨q1,q2,q3⟩;first|exact absurd q1 (by rw[‹torn=false›];nofun)|exact absurd (show((l.length:Nat):Int)=0 by rw[q2];rfl) (by assumption)|exact absurd (sameB_eq q3) (by rw[‹sameB x t=false›];nofun))⟩)
  ·
   refine uF 12 ?_
   refine uR 2 [.c [2]] ?_
   exact uB (j (0) _ ⟨H,hm.two (by rintro⟨q1,q2,q3⟩;first|exact absurd q1 (by rw[‹torn=false›];nofun)|exact absurd (show((l.length:Nat):Int)=0 by rw[q2];rfl) (by assumption)|exact absurd (sameB_eq q3) (by rw[‹sameB x t=false›];nofun))⟩)
 ·
  rintro F _⟨H,⟨hxb,hpl,hpr⟩⟩
  refine uR 1 [.c [2,0],.c [3]] ?_
  refine qG (sq 0 6) ?_
  refine uP 3 ?_
  refine uV 22 3 (H.cells 0 rfl) ?_
  refine uF 2 ?_
  refine uR 2 [.c [3,0,0],.c [3,0,1],.c [4]] ?_
  refine qG (sq 0 25) ?_
  refine uP 4 ?_
  refine uV 23 2 (H.cells 0 rfl) ?_
  refine uK (same01N (xs:=x) (ys:=b) (H.rp 4 rfl) (H.rp 1 rfl)) ?_
  rintro _ _ J rfl
  have H:=H.ext J
  rw[sameB_eq (hxb)]
  refine uP 8 ?_
  refine uD 45 ((((l.length:Nat):Int):Int)<((R0.length:Nat):Int)) (fun K=>?_) (fun K=>?_)
  ·
   (have h1:=hpl.length_le;omega)
  ·
   refine uP 6 ?_
   refine uV 22 4 (H.cells 0 rfl) ?_
   refine qP 1 (sq 22 25) [(0,.P bk 0),(2,.slice ay l.length cy),(7,.I ((R0.length:Nat):Int)),(45,.bool false),(47,.I ((l.length:Nat):Int)),(48,.I ((R0.length:Nat):Int)),(53,.I ((L.length:Nat):Int))] ?_
   refine uI (((R0.length:Nat):Int)+((L.length:Nat):Int)) ?_
   refine uF 2 ?_
   refine qD ((((l.length:Nat):Int):Int)>((R0.length:Nat):Int)+((L.length:Nat):Int)) (fun M=>?_) (fun M=>?_)
   ·
    (have h1:=hpr.length_le;rw[List.length_append]at h1;omega)
   ·
    refine uR 5 [.c [4,0,1,0],.b 0,.c [5]] ?_
    refine uL (α:=Nat) (g:=67) (p:=[4,0,1,0,0]) (fun i=>[(0,.P bk 0),(2,.slice ay l.length cy),(7,.I ((R0.length:Nat):Int)),(8,.I i)]) (fun i w'=>Hp w S O [(bk,.cells #[.slice aB B.length cB,.slice aR R.length cR,.slice ab b.length cb,.slice a0 R0.length c0,.slice al L.length cl,.bool torn,.slice at_ t.length ct] 50 (0,0))] [⟨SB,23,.slice aR R.length cR,R⟩,⟨SB,23,.slice al L.length cl,L⟩] [Rp SB [.slice aB B.length cB] B,Rp SB [.slice ab b.length cb] b,Rp SB [.slice at_ t.length ct] t,Rp (Shape.slice SB) [.slice a0 R0.length c0] R0,Rp SB [.slice ax x.length cx] x,Rp (Shape.slice SB) [.slice ay l.length cy] l] w'∧i≤l.length) (fun i=>l.length-i) 0 ⟨H,Nat.zero_le _⟩ ?_
    rintro i _⟨H,hi⟩f
    refine uR 3 [.c [4,0,1,0,0,0,1],.c [4,0,1,0,0,1],.l [4,0,1,0,0],.b 0,.c [5]] ?_
    refine qD (((i:Int):Int)<((l.length:Nat):Int)) (fun N=>?_) (fun N=>?_)
    ·
     have s:=hpr.length_le
     rw[List.length_append]at s
     refine uR 8 [.c [4,0,1,0,0,1,0,0,1,0,1],.c [4,0,1,0,0,1,0,0,2],.b 1,.c [4,0,1,0,0,2],.l [4,0,1,0,0],.b 0,.c [5]] ?_
     refine qD (((i:Int):Int)<((R0.length:Nat):Int)) (fun Q=>?_) (fun Q=>?_)
     ·
      refine qG (sq 0 8) ?_
      refine uP 3 ?_
      refine uV 22 3 (H.cells 0 rfl) ?_
      refine uP 1 ?_
      have u:i<R0.length:=by omega
      refine uX 22 (i:Int) H 3 rfl i (by omega) (List.getElem?_eq_getElem u) ?_
      intro _ _ _ k H
      obtain⟨_,_,rfl⟩:=Shape.slice_form' k
      have H:=H.addR k
      refine uV 23 0 (H.fc 1 rfl) ?_
      refine uF 1 ?_
      refine uR 1 [.c [4,0,1,0,0,1,0,0,2,0],.c [4,0,1,0,0,1,0,0,3],.b 1,.c [4,0,1,0,0,2],.l [4,0,1,0,0],.b 0,.c [5]] ?_
      refine qG (sq 0 7) ?_
      refine uP 2 ?_
      have y:i<l.length:=by omega
      refine uX 22 (i:Int) H 7 rfl i (by omega) (List.getElem?_eq_getElem y) ?_
      intro _ _ _ n H
      obtain⟨_,_,rfl⟩:=Shape.slice_form' n
      have H:=H.addR n
      refine uV 23 0 (H.fc 1 rfl) ?_
      refine uP 1 ?_
      refine uK (same01N (xs:=l[i]) (ys:=R0[i]) (H.rp 0 rfl) (H.rp 2 rfl)) ?_
      rintro _ _ z rfl
      have H:=H.ext z
      rw[sameB_eq (pre_at hpl (by omega) (by omega))]
      refine uF 1 ?_
      refine uR 3 [.c [4,0,1,0,0,2],.l [4,0,1,0,0],.b 0,.c [5]] ?_
      refine qG (sq 0 3) ?_
      refine qP 1 (sq 1 3) [(0,.P bk 0),(2,.slice ay l.length cy),(7,.I ((R0.length:Nat):Int)),(8,.I i),(61,.I i)] ?_
      refine uI ((i:Int)+1) ?_
      refine uF 1 ?_
      have H:=H.pick [4,5,6,7,8,9] rfl
      exact uB (f (i+1) _ ⟨H,by omega⟩ (by first|omega|(simp only[];omega)))
     ·
      refine qG (sq 0 10) ?_
      refine uP 3 ?_
      refine uV 22 4 (H.cells 0 rfl) ?_
      refine uP 2 ?_
      refine uI ((i:Int)-((R0.length:Nat):Int)) ?_
      have H:=H.frontW 1 rfl
      have A:L.length=L.length:=rfl
      have C:(i-R0.length)<L.length:=by omega
      refine RW.indexW (κ:=.seq) (d:=some 80) (r:=(sq 8 10)) (T:=22) (e:=23) (m:=1) (ik:=.i64) (ix:=(i:Int)-((R0.length:Nat):Int)) (sh:=SB) (xs:=L) (a:=al) (len:=L.length) (cap:=cl) (by as_aux_lemma=>kernel_rfl) (by as_aux_lemma=>kernel_rfl) rfl H (i-R0.length) (by omega) C A ?_
      intro _ _ _ h o
      obtain⟨_,_,rfl⟩:=Shape.slice_form' o
      have H:=H.addR o
      refine uV 23 0 h ?_
      refine uF 1 ?_
      refine uR 1 [.c [4,0,1,0,0,1,0,0,2,0],.c [4,0,1,0,0,1,0,0,3],.b 1,.c [4,0,1,0,0,2],.l [4,0,1,0,0],.b 0,.c [5]] ?_
      refine qG (sq 0 7) ?_
      refine uP 2 ?_
      have D:i<l.length:=by omega
      refine uX 22 (i:Int) H 6 rfl i (by omega) (List.getElem?_eq_getElem D) ?_
      intro _ _ _ q H
      obtain⟨_,_,rfl⟩:=Shape.slice_form' q
      have H:=H.addR q
      refine uV 23 0 (H.fc 1 rfl) ?_
      refine uP 1 ?_
      refine uK (same01N (xs:=l[i]) (ys:=L[(i-R0.length)]) (H.rp 0 rfl) (H.rp 2 rfl)) ?_
      rintro _ _ E rfl
      have H:=H.ext E
      rw[sameB_eq (pre_at2 hpr (by omega) (by omega) (by omega))]
      refine uF 1 ?_
      refine uR 3 [.c [4,0,1,0,0,2],.l [4,0,1,0,0],.b 0,.c [5]] ?_
      refine qG (sq 0 3) ?_
      refine uP 1 ?_
      refine uI ((i:Int)+1) ?_
      refine qF 1 [(0,.P bk 0),(2,.slice ay l.length cy),(7,.I ((R0.length:Nat):Int)),(8,.I ((i:Int)+1))] ?_
      have H:=H.pick [3,4,5,6,7,8] rfl
      have H:=H.frontW 1 rfl
      exact uB (f (i+1) _ ⟨H,by omega⟩ (by first|omega|(simp only[];omega)))
    ·
     refine uR 3 [.c [6]] ?_
     refine qT (.bool true) Tryz.func67 ?_
     have H:=H.pick [0,1,2,3] rfl
     exact⟨_,rfl,rfl,H⟩
theorem bk_found{S:Nat→Prop}{w:World}{O:List Nat}{bk:Nat}{B b t:List (BitVec 8)}{R R0 L:List (List (BitVec 8))}{aB aR ab a0 al at_:Option Addr}{cB cR cb c0 cl ct:Nat}{torn:Bool}{x:List (BitVec 8)}{ax:Option Addr}{cx:Nat}{l:List (List (BitVec 8))}{ay:Option Addr}{cy:Nat}(hRl:R.length≤1000000)(hLl:L.length≤1000000)(hm:mayP b t R0 L torn x l)(hR0:R0.length≤1000000)(hll:l.length≤1000000)(H0:Hp w S O [(bk,.cells #[.slice aB B.length cB,.slice aR R.length cR,.slice ab b.length cb,.slice a0 R0.length c0,.slice al L.length cl,.bool torn,.slice at_ t.length ct] 50 (0,0))] [⟨SB,23,.slice aR R.length cR,R⟩,⟨SB,23,.slice al L.length cl,L⟩] [Rp SB [.slice aB B.length cB] B,Rp SB [.slice ab b.length cb] b,Rp SB [.slice at_ t.length ct] t,Rp (Shape.slice SB) [.slice a0 R0.length c0] R0,Rp SB [.slice ax x.length cx] x,Rp (Shape.slice SB) [.slice ay l.length cy] l] w):
 Calls Tryz.prog 26 #[.P bk 0,.slice ax x.length cx,.slice ay l.length cy] w (Ret fun v w'=>v=.bool true∧∃(aR':Option Addr)(cR':Nat)(a0':Option Addr)(c0':Nat),Hp w S O [(bk,.cells #[.slice ax x.length cx,.slice aR' l.length cR',.slice ax x.length cx,.slice a0' l.length c0',.slice none (([]:List (List (BitVec 8))).length) 0,.bool false,.slice at_ t.length ct] 50 (0,0))] [⟨SB,23,.slice aR' l.length cR',l⟩,⟨SB,23,.slice none (([]:List (List (BitVec 8))).length) 0,([]:List (List (BitVec 8)))⟩] [Rp SB [.slice ax x.length cx] x,Rp SB [.slice ax x.length cx] x,Rp SB [.slice at_ t.length ct] t,Rp (Shape.slice SB) [.slice a0' l.length c0'] l] w'):=by
 refine uS1 Tryz.func26 ?_
 have H:=H0
 refine uR 3 [.c [1,0],.c [2]] ?_
 refine qG (sq 0 5) ?_
 refine uP 3 ?_
 have H:=H.frontW 1 rfl
 have H:=H.frontW 1 rfl
 refine uKS (bk_may hRl hLl hm hR0 ((H.lend (M1:=[_]) (W1:=[_,_])).pick [0,1,2,3,4,5] rfl)) ?_
 rintro _ _⟨rfl,H'⟩
 have H:=H.back (M1:=[_]) (W1:=[_,_]) H'
 have H:Hp w S O [_] [_,_] [_,_,_,_,_,_,_,_,_,_] _:=H
 refine uF 1 ?_
 refine uR 5 [.c [2,0,1,0,0],.c [2,0,1,0,1],.c [3]] ?_
 refine qG (sq 0 5) ?_
 refine uP 4 ?_
 refine uW 23 0 #[.slice ax x.length cx,.slice aR R.length cR,.slice ab b.length cb,.slice a0 R0.length c0,.slice al L.length cl,.bool torn,.slice at_ t.length ct] H 0 rfl ?_
 intro _ H
 refine uF 0 ?_
 refine uR 1 [.c [2,0,1,0,1,0],.c [2,0,1,0,2],.c [3]] ?_
 refine qG (sq 0 7) ?_
 refine uP 1 ?_
 refine RW.new (κ:=.seq) (d:=some 18) (r:=(sq 2 7)) (o:=.cells #[] 23 (0,0)) (v:=fun b=>.slice (some ⟨b,0,none⟩) 0 0) (fun b=>by as_aux_lemma=>kernel_rfl) (nofun) H ?_
 intro h _ H
 refine uP 1 ?_
 have H:=H.toOwn (sh:=SB) (xs:=[]) (cap:=0) (by rfl) (Nat.le_refl _) (Nat.zero_le _) (by simp) EsP.nil
 have H:Hp w S O [_] [⟨SB,23,.slice (some ⟨h,0,none⟩) 0 0,[]⟩,_,_] [_,_,_,_,_,_,_,_,_,_] _:=H
 refine uA 22 22 24 l H 0 rfl 9 rfl (rfl) (by omega) ?_
 intro f g _ H _
 have H:Hp w S O [_] [⟨SB,23,.slice f l.length g,l⟩,_,_] [_,_,_,_,_,_,_,_,_,_] _:=H
 refine uP 2 ?_
 refine uW 22 1 #[.slice ax x.length cx,.slice f l.length g,.slice ab b.length cb,.slice a0 R0.length c0,.slice al L.length cl,.bool torn,.slice at_ t.length ct] H 0 rfl ?_
 intro _ H
 refine qF 0 [(0,.P bk 0),(7,.bool true)] ?_
 refine qG (sq 0 2) ?_
 refine uP 1 ?_
 have H:=H.frontW 2 rfl
 have H:=H.frontW 1 rfl
 refine uKS (bk_syn hll hLl ((H.lend (M1:=[_]) (W1:=[_,_])).pick [8,1,2,3] rfl)) ?_
 rintro _ _⟨rfl,a,e,H'⟩
 have H:=H.back (M1:=[_]) (W1:=[_,_]) H'
 have H:Hp w S O [(bk,.cells #[.slice ax x.length cx,.slice f l.length g,.slice ax x.length cx,.slice a l.length e,.slice none (([]:List (List (BitVec 8))).length) 0,.bool false,.slice at_ t.length ct] 50 (0,0))] [_,_,_] [_,_,_,Rp (Shape.slice SB) [.slice a l.length e] l,_,_,_,_,_,_,_,_,_,_] _:=H
 refine uF 0 ?_
 refine uR 2 [.c [4]] ?_
 refine qT (.bool true) Tryz.func26 ?_
 have H:=H.pick [0,0,2,3] rfl
 have H:=H.dropW 2
 exact⟨_,rfl,rfl,_,_,_,_,H⟩
end Go.Proofs.YtdnibpclkhenmaaGreatDoor
