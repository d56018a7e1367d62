import Derived.Test.YtdnibpclkhenmaaGreatDoorSBxA
import Derived.Test.YtdnibpclkhenmaaGreatDoorSG5
import Derived.Test.YtdnibpclkhenmaaGreatDoorSBxB
namespace Go.Proofs.YtdnibpclkhenmaaGreatDoor
open Go.BX
def nmC(l:List StepD):Nat:=(l.filter fun s=>decide (s.kind≠3)).length
theorem nmC_yes{l:List StepD}{k:Nat}(h:k<l.length)(hk:l[k].kind≠3):nmC (l.take (k+1))=nmC (l.take k)+1:=by
 unfold nmC
 rw[take_snoc h,List.filter_append,List.length_append,List.filter_cons_of_pos (by simpa using hk)];rfl
theorem nmC_no{l:List StepD}{k:Nat}(h:k<l.length)(hk:l[k].kind=3):nmC (l.take (k+1))=nmC (l.take k):=by
 unfold nmC
 rw[take_snoc h,List.filter_append,List.length_append,List.filter_cons_of_neg (by simpa using hk)];rfl
theorem nmC_le(l:List StepD)(k:Nat):nmC (l.take k)≤l.length:=Nat.le_trans (List.length_filter_le _ _) (by rw[List.length_take];omega)
def bitOf(keep:List (BitVec 8))(j:Nat):Bool:=match keep[j/8]? with
 |some x=>decide ((((x>>>(j%8)&&&1#8).toNat:Nat):Int)>0)
 |none=>false
def updO(fs:List FileD)(o:Option Nat)(g:FileD→FileD):List FileD:=match o with
 |some p=>updF fs p g
 |none=>fs
structure CrS where
 A:NameL×Nat
 i:Nat
 j:Nat
 fs:List FileD
def crStep(first:Int)(keep:List (BitVec 8))(C:CrS)(x:StepD):CrS:=
 if x.kind=3 then⟨C.A,C.i,C.j+1,if bitOf keep C.j then updO C.fs x.file (putS x.at_ x.data)else C.fs⟩
 else⟨if(C.i:Int)<first then mapN C.A x else C.A,C.i+1,C.j,C.fs⟩
def crAt(first:Int)(keep:List (BitVec 8))(A:NameL×Nat)(fs:List FileD)(l:List StepD):CrS:=l.foldl (crStep first keep) ⟨A,0,0,fs⟩
theorem crAt_step{first:Int}{keep:List (BitVec 8)}{A:NameL×Nat}{fs:List FileD}{l:List StepD}{k:Nat}(h:k<l.length):crAt first keep A fs (l.take (k+1))=crStep first keep (crAt first keep A fs (l.take k)) l[k]:=by
 unfold crAt
 rw[take_snoc h,List.foldl_append];rfl
def sizeX(X:SecM):Int:=X.foldl (fun m e=>if e.1+1>m then e.1+1 else m) 0
theorem sizeX_snoc(X:SecM)(e:Int×Sec×Nat):sizeX (X++[e])=if e.1+1>sizeX X then e.1+1 else sizeX X:=by
 unfold sizeX
 rw[List.foldl_append];rfl
theorem sizeX_spec(X:SecM):0≤sizeX X∧(∀e∈X,e.1+1≤sizeX X)∧(sizeX X=0∨∃e∈X,sizeX X=e.1+1):=by
 have h:∀(X:SecM)(m:Int),0≤m→m≤X.foldl (fun m e=>if e.1+1>m then e.1+1 else m) m∧(∀e∈X,e.1+1≤X.foldl (fun m e=>if e.1+1>m then e.1+1 else m) m)∧
  (X.foldl (fun m e=>if e.1+1>m then e.1+1 else m) m=m∨∃e∈X,X.foldl (fun m e=>if e.1+1>m then e.1+1 else m) m=e.1+1):=by
  intro X
  induction X with
  |nil=>intro m hm;exact⟨Int.le_refl _,fun e he=>(by cases he),.inl rfl⟩
  |cons e X ih =>
   intro m hm
   simp only[List.foldl_cons]
   by_cases hc : e.1 + 1 > m
   · rw[if_pos hc]
     obtain⟨b, c, a⟩:= ih (e.1 + 1) (by omega)
     refine⟨by omega, fun x hx =>?_, ?_⟩
     · rcases List.mem_cons.1 hx with rfl | hx
       · exact b
       · exact c x hx
     · rcases a with a |⟨x, hx, a⟩
       · exact .inr ⟨e, List.mem_cons_self .., a⟩
       · exact .inr ⟨x, List.mem_cons_of_mem _ hx, a⟩
   · rw[if_neg hc]
     obtain⟨b, c, a⟩:= ih m hm
     refine⟨b, fun x hx =>?_, ?_⟩
     · rcases List.mem_cons.1 hx with rfl | hx
       · omega
       · exact c x hx
     · rcases a with a |⟨x, hx, a⟩
       · exact .inl a
       · exact .inr ⟨x, List.mem_cons_of_mem _ hx, a⟩
 have := h X 0 (by omega)
 exact this
theorem sizeX_perm{X Y:SecM}(h:X.Perm Y):sizeX X=sizeX Y:=by
 obtain⟨_,c,a⟩:=sizeX_spec X
 obtain⟨_,d,b⟩:=sizeX_spec Y
 have f:sizeX X≤sizeX Y:=by
  rcases a with a|⟨e,he,a⟩
  ·omega
  ·have:=d e (h.mem_iff.1 he);omega
 have g:sizeX Y≤sizeX X:=by
  rcases b with b|⟨e,he,b⟩
  ·omega
  ·have:=c e (h.mem_iff.2 he);omega
 omega
def visit(n:Nat)(f:FileD):FileD:={f with n:=n,now:=f.safe,nc:=f.sc,size:=sizeX f.safe}
def crF(fs:List FileD)(dn:NameL)(ns:Nat→Nat):List FileD:=fs.map fun f=>if some f.p∈dn.map (·.2.1)then visit (ns f.p) f else f
theorem crF_nil(fs:List FileD)(ns:Nat→Nat):crF fs [] ns=fs:=by
 unfold crF
 simp
theorem crF_ps(fs:List FileD)(dn:NameL)(ns:Nat→Nat):psOf (crF fs dn ns)=psOf fs:=by
 unfold psOf crF
 rw[List.map_map]
 apply List.map_congr_left
 intro f _
 simp only[Function.comp_apply]
 split<;>rfl
theorem crF_step(fs:List FileD)(dn:NameL)(ns:Nat→Nat)(p n:Nat)(e:ByteArray×Option Nat×Nat)(he:e.2.1=some p):updF (crF fs dn ns) p (visit n)=crF fs (dn++[e]) (fun q=>if q=p then n else ns q):=by
 unfold updF crF
 rw[List.map_map]
 apply List.map_congr_left
 intro f _
 simp only[Function.comp_apply,List.map_append,List.map_cons,List.map_nil,List.mem_append,List.mem_singleton,he,Option.some.injEq]
 by_cases h1:some f.p ∈ dn.map (·.2.1)
 · rw[if_pos h1]
   have hp : (visit (ns f.p) f).p=f.p:=rfl
   by_cases h2:f.p=p
   ·rw[if_pos (hp.trans h2),if_pos (.inl h1),if_pos h2];rfl
   ·rw[if_neg (fun h=> h2 (hp.symm.trans h)), if_pos (.inl h1), if_neg h2]
 · rw[if_neg h1]
   by_cases h2 :f.p=p
   ·rw[if_pos h2,if_pos (.inr h2),if_pos h2]
   ·rw[if_neg h2,if_neg (fun h=>h.elim h1 h2)]
theorem crF_perm(fs:List FileD){dn A:NameL}(h:dn.Perm A)(ns:Nat→Nat):crF fs dn ns=crF fs A ns:=by
 unfold crF
 apply List.map_congr_left
 intro f _
 have hm:some f.p∈dn.map (·.2.1)↔some f.p∈A.map (·.2.1):=(h.map _).mem_iff
 by_cases h1:some f.p∈dn.map (·.2.1)
 ·rw[if_pos h1,if_pos (hm.1 h1)]
 ·rw[if_neg h1,if_neg (fun h=>h1 (hm.2 h))]
def FileOk(f:FileD):Prop:=MOk f.safe f.sc∧MOk f.now f.nc∧(∀e∈f.safe,0≤e.1∧e.1<65536)∧(∀e∈f.now,0≤e.1∧e.1<65536)∧0≤f.size∧f.size≤65536
def FilesOk(fs:List FileD):Prop:=∀f∈fs,FileOk f
theorem mset_at{X:SecM}{x:Int}{v:Sec}{c:Nat}{e:Int×Sec×Nat}(h:e∈mset x v c X):e.1=x∨∃e'∈X,e'.1=e.1:=by
 have hk:e.1∈(mset x v c X).map (·.1):=List.mem_map.2 ⟨e, h, rfl⟩
 rw[mset_keys]at hk
 split at hk
 · obtain⟨e', he,hx⟩:=List.mem_map.1 hk
   exact .inr ⟨e',he, hx⟩
 · rcases List.mem_append.1 hk with hk | hk
   · obtain⟨e', he, hx⟩:=List.mem_map.1 hk
     exact .inr ⟨e',he,hx⟩
   ·exact .inl (by simpa using hk)
theorem FileOk.putS{f:FileD}(h:FileOk f){at_:Int}(ha:0≤at_∧at_<65536)(x:Sec):FileOk (putS at_ x f):=by
 obtain⟨a,b,c,d,g⟩:=h
 refine⟨a.set at_ x,b,fun e he=>?_,d,g⟩
 rcases mset_at he with i|⟨e',he',i⟩
 ·omega
 ·have:=c e' he';omega
theorem FileOk.putB{f:FileD}(h:FileOk f){at_:Int}(ha:0≤at_∧at_<65536)(x:Sec):FileOk (putB at_ x f):=by
 obtain⟨a,b,c,d,_,_⟩:=h
 refine⟨a,b.set at_ x,c,fun e he=>?_,?_, ?_⟩
 · rcases mset_at he with g |⟨e', he',g⟩
   ·omega
   ·have:= d e' he'; omega
 · show 0 ≤if at_+1>f.size then at_+1 else f.size
   split<;> omega
 · show(if at_ + 1>f.size then at_+1 else f.size)≤65536
   split<;>omega
theorem FilesOk.updF{fs:List FileD}(h:FilesOk fs){p:Nat}{g:FileD→FileD}(hg:∀f,FileOk f→FileOk (g f)):FilesOk (updF fs p g):=by
 intro f hf
 obtain⟨f',hf',rfl⟩:=List.mem_map.1 hf
 split
 ·exact hg _ (h _ hf')
 ·exact h _ hf'
theorem FileOk.visit{f:FileD}(h:FileOk f)(n:Nat):FileOk (visit n f):=by
 obtain⟨c,_,a,_,_,_⟩:=h
 obtain⟨d,_,b⟩:=sizeX_spec f.safe
 refine⟨c,c,a,a,d,?_⟩
 show sizeX f.safe≤65536
 rcases b with b|⟨e,he,b⟩
 ·omega
 ·have:=a e he;omega
theorem FilesOk.crF{fs:List FileD}(h:FilesOk fs)(dn:NameL)(ns:Nat→Nat):FilesOk (crF fs dn ns):=by
 intro f hf
 obtain⟨f',hf',rfl⟩:=List.mem_map.1 hf
 split
 ·exact(h _ hf').visit _
 ·exact h _ hf'
theorem mapN_ok{L:NameL×Nat}(h:MOk L.1 L.2)(s:StepD):MOk (mapN L s).1 (mapN L s).2:=by
 unfold mapN
 split
 ·exact h.set _ _
 · split
   ·exact(h.set _ _).del _
   · split
     ·exact h.del _
     ·exact h
theorem ps_nodup2{w0 w:World}{S:Nat→Prop}{O:List Nat}{M:Heap}{W:List OwnS}{G:List Fact}{fs:List FileD}(H:Hp w0 S O M W G w)(pre:Heap)(h:pre++filesH fs=M):(psOf fs).Nodup:=by
 subst h
 have a:Hp w0 S O (pre++filesH fs++[]) W G w:=by rw[List.append_nil];exact H
 exact ps_nodup a
structure CrOk(A:NameL×Nat)(fs:List FileD)(steps:List StepD):Prop where
 map:MOk A.1 A.2
 good:∀k,∀e∈((steps.take k).foldl mapN A).1,∃p,e.2.1=some p∧p∈psOf fs
 wr:∀x∈steps,x.kind=3→∃q,x.file=some q∧q∈psOf fs
 inn:∀x∈steps,StepIn x
 files:FilesOk fs
theorem crAt_A(first:Int)(keep:List (BitVec 8))(A:NameL×Nat)(fs:List FileD)(l:List StepD):
 ∃m,(crAt first keep A fs l).A=(l.take m).foldl mapN A∧(((crAt first keep A fs l).i:Int)≤first→(crAt first keep A fs l).A=l.foldl mapN A):=by
 have h:∀(k:Nat),k≤l.length→∃m,m≤k∧(crAt first keep A fs (l.take k)).A=(l.take m).foldl mapN A∧(((crAt first keep A fs (l.take k)).i:Int)≤first→(crAt first keep A fs (l.take k)).A=(l.take k).foldl mapN A):=by
  intro k
  induction k with
  |zero=>intro _;exact⟨0,Nat.le_refl _,rfl,fun _=>rfl⟩
  |succ k ih=>
   intro hk
   obtain⟨m,hm,a,b⟩:=ih (by omega)
   have hlt:k< l.length := by omega
   rw[crAt_step hlt]
   unfold crStep
   by_cases h3 : l[k].kind = 3
   · rw[if_pos h3]
     refine⟨m, by omega, a, fun hi =>?_⟩
     rw[syncN_skip hlt h3]
     exact b hi
   · rw[if_neg h3]
     by_cases h4 : ((crAt first keep A fs (l.take k)).i : Int) < first
     · simp only[h4, if_true]
       have e := b (by omega)
       refine⟨k+1,Nat.le_refl _,?_,fun _=>?_⟩
       ·rw[syncN_step hlt,e]
       · rw[syncN_step hlt, e]
     · simp only[h4, if_false]
       exact⟨m, by omega, a, fun hi =>by push_cast at hi;omega⟩
 obtain⟨m,-,a,b⟩:=h l.length (Nat.le_refl _)
 rw[List.take_length]at a b
 exact⟨m,a,b⟩
theorem foldN_ok{A:NameL×Nat}(h:MOk A.1 A.2)(l:List StepD):MOk (l.foldl mapN A).1 (l.foldl mapN A).2:=by
 induction l generalizing A with
 |nil=>exact h
 |cons s l ih=>exact ih (mapN_ok h s)
theorem crStep_yes{first:Int}{keep:List (BitVec 8)}{C:CrS}{x:StepD}{q:Nat}(h:x.kind=3)(hq:x.file=some q)(hb:bitOf keep C.j=true):crStep first keep C x=⟨C.A,C.i,C.j+1,updF C.fs q (putS x.at_ x.data)⟩:=by
 unfold crStep
 rw[if_pos h,hb,hq];rfl
theorem crStep_no{first:Int}{keep:List (BitVec 8)}{C:CrS}{x:StepD}(h:x.kind=3)(hb:bitOf keep C.j=false):crStep first keep C x=⟨C.A,C.i,C.j+1,C.fs⟩:=by
 unfold crStep
 rw[if_pos h,hb];rfl
theorem crStep_name{first:Int}{keep:List (BitVec 8)}{C:CrS}{x:StepD}(h:x.kind≠3)(hb:(C.i:Int)<first):crStep first keep C x=⟨mapN C.A x,C.i+1,C.j,C.fs⟩:=by
 unfold crStep
 rw[if_neg h,if_pos hb]
theorem crStep_pass{first:Int}{keep:List (BitVec 8)}{C:CrS}{x:StepD}(h:x.kind≠3)(hb:¬(C.i:Int)<first):crStep first keep C x=⟨C.A,C.i+1,C.j,C.fs⟩:=by
 unfold crStep
 rw[if_neg h,if_neg hb]
theorem cloneN{S:Nat→Prop}{w:World}{O:List Nat}{m c:Nat}{L:NameL}(H0:Hp w S O [(m,mapO Value.string ptrV L c)] [] [] w):
 Calls Tryz.prog 65 #[.map (some m)] w (Ret fun v w'=>∃n:Nat,v=.map (some n)∧Hp w S O [(n,mapO Value.string ptrV L c),(m,mapO Value.string ptrV L c)] [] [] w'):=by
 refine uS1 Tryz.func65 ?_
 have H:=H0
 refine uR 8 [.c [2,0],.c [3]] ?_
 refine qG (sq 0 5) ?_
 refine uP 2 ?_
 refine RW.cloneM (κ:=.seq) (d:=some 7) (r:=(sq 3 5)) (f:=120) (fn:=Tryz.f120) (t:=36) (b:=m) (mk:=Value.string) (vk:=ptrV) (by as_aux_lemma=>kernel_rfl) (nofun) Tryz.func120 (by as_aux_lemma=>kernel_rfl) (by as_aux_lemma=>kernel_rfl) (by as_aux_lemma=>kernel_rfl) (by as_aux_lemma=>kernel_rfl) H 0 rfl ?_
 intro a _ H
 refine uF 2 ?_
 refine qT (.map (some a)) Tryz.func65 ?_
 exact⟨_,rfl,a,rfl,H⟩
theorem cloneX{S:Nat→Prop}{w:World}{O:List Nat}{m c:Nat}{L:SecM}(H0:Hp w S O [(m,mapO (Value.int .i64) secVal L c)] [] [] w):
 Calls Tryz.prog 66 #[.map (some m)] w (Ret fun v w'=>∃n:Nat,v=.map (some n)∧Hp w S O [(n,mapO (Value.int .i64) secVal L c),(m,mapO (Value.int .i64) secVal L c)] [] [] w'):=by
 refine uS1 Tryz.func66 ?_
 have H:=H0
 refine uR 8 [.c [2,0],.c [3]] ?_
 refine qG (sq 0 5) ?_
 refine uP 2 ?_
 refine RW.cloneM (κ:=.seq) (d:=some 7) (r:=(sq 3 5)) (f:=120) (fn:=Tryz.f120) (t:=145) (b:=m) (mk:=(Value.int .i64)) (vk:=secVal) (by as_aux_lemma=>kernel_rfl) (nofun) Tryz.func120 (by as_aux_lemma=>kernel_rfl) (by as_aux_lemma=>kernel_rfl) (by as_aux_lemma=>kernel_rfl) (by as_aux_lemma=>kernel_rfl) H 0 rfl ?_
 intro a _ H
 refine uF 2 ?_
 refine qT (.map (some a)) Tryz.func66 ?_
 exact⟨_,rfl,a,rfl,H⟩
set_option maxHeartbeats 4000000 in
theorem crash_nil{S:Nat→Prop}{w:World}{O:List Nat}{db sb nb sk c lc ca:Nat}{sa a:Option Addr}{L A:NameL}{fs:List FileD}{steps:List StepD}{armed:Bool}{left:Int}{dead:Bool}(hst:steps.length≤1000000000)(hok:CrOk (A,lc) fs steps)(H0:Hp w S O ((db,.cells #[.bool true,.map (some sb),.map (some nb),.slice sa steps.length sk,.bool armed,.I left,.bool dead] 39 (0,0))::(nb,mapO Value.string ptrV L c)::(sb,mapO Value.string ptrV A lc)::(filesH fs)) [⟨stepS,143,.slice sa steps.length sk,steps⟩] [] w):
 Calls Tryz.prog 25 #[.P db 0,.slice a 0 ca] w (Ret fun v w'=>v=.tuple #[]∧∃(C:CrS)(ns:Nat→Nat)(nb2:Nat),C=crAt 0 ([]:List (BitVec 8)) (A,lc) fs steps∧Hp w S O ((db,.cells #[.bool true,.map (some sb),.map (some nb2),.slice none 0 0,.bool false,.I left,.bool false] 39 (0,0))::(nb2,mapO Value.string ptrV C.A.1 C.A.2)::(sb,mapO Value.string ptrV C.A.1 C.A.2)::filesH (crF C.fs C.A.1 ns)) [⟨stepS,143,.slice none 0 0,([]:List StepD)⟩] [] w'):=by
 refine uS1 Tryz.func25 ?_
 have H:=H0
 refine uR 2 [.c [0,0],.c [0,1],.c [1]] ?_
 refine qG (sq 0 9) ?_
 refine uP 6 ?_
 refine uV 4 0 (H.cells 0 rfl) ?_
 refine uF 2 ?_
 refine uR 6 [.c [2,0,0],.c [2,0,1],.c [3]] ?_
 refine qG (sq 0 6) ?_
 refine uP 3 ?_
 refine uV 37 3 (H.cells 0 rfl) ?_
 refine uF 2 ?_
 refine uR 1 [.c [2,0,1,0],.b 0,.c [3]] ?_
 refine uL (α:=Nat) (g:=25) (p:=[2,0,1,0,0]) (fun k=>[(0,.P db 0),(1,.slice a 0 ca),(4,.I ((nmC (steps.take k):Nat):Int)),(26,.slice sa steps.length sk),(27,.I ((steps.length:Nat):Int)),(28,.I k)]) (fun k w'=>Hp w S O ((db,.cells #[.bool true,.map (some sb),.map (some nb),.slice sa steps.length sk,.bool armed,.I left,.bool dead] 39 (0,0))::(nb,mapO Value.string ptrV L c)::(sb,mapO Value.string ptrV A lc)::(filesH fs)) [⟨stepS,143,.slice sa steps.length sk,steps⟩] [] w'∧k≤steps.length) (fun k=>steps.length-k) 0 ⟨H,Nat.zero_le _⟩ ?_
 rintro k w2⟨H,_⟩Q
 have y0:=nmC_le steps k
 refine uR 3 [.c [2,0,1,0,0,1,0],.c [2,0,1,0,0,2],.l [2,0,1,0,0],.b 0,.c [3]] ?_
 refine qD (((k:Int):Int)<((steps.length:Nat):Int)) (fun h3=>?_) (fun h3=>?_)
 ·
  refine uR 4 [.c [2,0,1,0,0,2,0,0,0],.c [2,0,1,0,0,2,0,0,1],.b 1,.c [2,0,1,0,0,3],.l [2,0,1,0,0],.b 0,.c [3]] ?_
  refine qG (sq 0 4) ?_
  have r0:steps.length=steps.length:=rfl
  have a0:k<steps.length:=by omega
  refine RW.indexW (κ:=.seq) (d:=some 30) (r:=(sq 1 4)) (T:=37) (e:=143) (m:=69) (ik:=.i64) (ix:=(k:Int)) (sh:=stepS) (xs:=steps) (a:=sa) (len:=steps.length) (cap:=sk) (by as_aux_lemma=>kernel_rfl) (by as_aux_lemma=>kernel_rfl) rfl H k (by omega) a0 r0 ?_
  intro _ _ _ b0 k0
  obtain⟨rfl,_⟩:=k0
  refine uV 143 0 b0 ?_
  refine uC ((stepC (⟨0,none,(⟨#[]⟩:ByteArray),(⟨#[]⟩:ByteArray),0,zeroSec⟩:StepD)).toArray) 143 H ?_
  intro i0 _ H
  refine qW 143 i0 0 (sq 4 4) (.agg (stepC (steps[k])).toArray) ((i0,.cells (stepC (steps[k])).toArray 143 (0,0))::(db,.cells #[.bool true,.map (some sb),.map (some nb),.slice sa steps.length sk,.bool armed,.I left,.bool dead] 39 (0,0))::(nb,mapO Value.string ptrV L c)::(sb,mapO Value.string ptrV A lc)::(filesH fs)) H 0 rfl rfl ?_
  intro _ H
  refine uF 0 ?_
  refine uR 1 [.c [2,0,1,0,0,2,0,0,1,0],.c [2,0,1,0,0,2,0,0,2],.b 1,.c [2,0,1,0,0,3],.l [2,0,1,0,0],.b 0,.c [3]] ?_
  refine qG (sq 0 3) ?_
  refine uP 1 ?_
  refine uV 138 0 (H.cells 0 rfl) ?_
  refine uF 1 ?_
  refine qN ((steps[k]).kind) 3 (fun c0=>?_) (fun c0=>?_)
  ·
   refine qG (sq 0 3) ?_
   refine uP 1 ?_
   refine uI (((nmC (steps.take k):Nat):Int)+1) ?_
   refine uF 1 ?_
   refine uR 1 [.c [2,0,1,0,0,3],.l [2,0,1,0,0],.b 0,.c [3]] ?_
   refine qG (sq 0 2) ?_
   refine uI ((k:Int)+1) ?_
   refine uF 1 ?_
   have eN:=nmC_yes a0 c0
   rw[show(((nmC (steps.take k):Nat):Int)+1:Int)=((nmC (steps.take (k+1)):Nat):Int)by rw[eN];push_cast;rfl]
   have H:=H.dropM 0
   exact uB (Q (k+1) _ ⟨H,by omega⟩ (by first|omega|(simp only[];omega)))
  ·
   refine qR 2 [.c [2,0,1,0,0,3],.l [2,0,1,0,0],.b 0,.c [3]] [(0,.P db 0),(1,.slice a 0 ca),(4,.I ((nmC (steps.take k):Nat):Int)),(26,.slice sa steps.length sk),(27,.I ((steps.length:Nat):Int)),(28,.I k)] ?_
   refine qG (sq 0 2) ?_
   refine uI ((k:Int)+1) ?_
   refine uF 1 ?_
   have eN:=nmC_no a0 c0
   rw[show(((nmC (steps.take k):Nat):Int):Int)=((nmC (steps.take (k+1)):Nat):Int)by rw[eN]]
   have H:=H.dropM 0
   exact uB (Q (k+1) _ ⟨H,by omega⟩ (by first|omega|(simp only[];omega)))
 ·
  refine uR 14 [.c [7,0,0],.c [7,0,1],.c [8]] ?_
  refine qG (sq 0 6) ?_
  refine uP 3 ?_
  refine uV 37 3 (H.cells 0 rfl) ?_
  refine uF 2 ?_
  refine qR 1 [.c [7,0,1,0],.b 2,.c [8]] [(0,.P db 0),(1,.slice a 0 ca),(4,.I 0),(7,.I 0),(8,.I 0),(53,.slice sa steps.length sk),(54,.I ((steps.length:Nat):Int)),(55,.I 0)] ?_
  obtain⟨C0,d0⟩:∃z:CrS,z=⟨(A,lc),0,0,fs⟩:=⟨_,rfl⟩
  have H:Hp w S O ((db,.cells #[.bool true,.map (some sb),.map (some nb),.slice sa steps.length sk,.bool armed,.I left,.bool dead] 39 (0,0))::(nb,mapO Value.string ptrV L c)::(sb,mapO Value.string ptrV C0.A.1 C0.A.2)::(filesH C0.fs)) [⟨stepS,143,.slice sa steps.length sk,steps⟩] [] w2:=by rw[d0];exact H
  refine WK.loop (α:=Nat×CrS) (b:=cd Tryz.prog 25 [7,0,1,0,0]) (by as_aux_lemma=>kernel_rfl) (fun(k,C)=>[(0,.P db 0),(1,.slice a 0 ca),(4,.I ((C.i:Nat):Int)),(7,.I 0),(8,.I ((C.j:Nat):Int)),(53,.slice sa steps.length sk),(54,.I ((steps.length:Nat):Int)),(55,.I k)]) (fun(k,C)w'=>Hp w S O ((db,.cells #[.bool true,.map (some sb),.map (some nb),.slice sa steps.length sk,.bool armed,.I left,.bool dead] 39 (0,0))::(nb,mapO Value.string ptrV L c)::(sb,mapO Value.string ptrV C.A.1 C.A.2)::(filesH C.fs)) [⟨stepS,143,.slice sa steps.length sk,steps⟩] [] w'∧C=crAt 0 ([]:List (BitVec 8)) (A,lc) fs (steps.take k)∧k≤steps.length∧C.i≤k∧C.j≤k∧psOf C.fs=psOf fs∧FilesOk C.fs) (fun(k,C)=>steps.length-k) (0,C0) ⟨H,by rw[d0];exact⟨rfl,Nat.zero_le _,Nat.le_refl _,Nat.le_refl _,rfl,hok.files⟩⟩ (by rw[d0];rfl) ?_
  rintro⟨k,C⟩_⟨H,o⟩F
  obtain⟨hvk,hvi,hvj⟩:=And.intro o.2.1 (And.intro o.2.2.1 o.2.2.2.1)
  refine uR 3 [.c [7,0,1,0,0,1,0],.c [7,0,1,0,0,2],.l [7,0,1,0,0],.b 2,.c [8]] ?_
  refine qD (((k:Int):Int)<((steps.length:Nat):Int)) (fun s0=>?_) (fun s0=>?_)
  ·
   refine uR 4 [.c [7,0,1,0,0,2,0,0,0],.c [7,0,1,0,0,2,0,0,1],.b 3,.c [7,0,1,0,0,3],.l [7,0,1,0,0],.b 2,.c [8]] ?_
   refine qG (sq 0 4) ?_
   have l0:steps.length=steps.length:=rfl
   have J:k<steps.length:=by omega
   refine RW.indexW (κ:=.seq) (d:=some 57) (r:=(sq 1 4)) (T:=37) (e:=143) (m:=69) (ik:=.i64) (ix:=(k:Int)) (sh:=stepS) (xs:=steps) (a:=sa) (len:=steps.length) (cap:=sk) (by as_aux_lemma=>kernel_rfl) (by as_aux_lemma=>kernel_rfl) rfl H k (by omega) J l0 ?_
   intro _ _ _ X m0
   obtain⟨rfl,_⟩:=m0
   refine uV 143 0 X ?_
   refine uC ((stepC (⟨0,none,(⟨#[]⟩:ByteArray),(⟨#[]⟩:ByteArray),0,zeroSec⟩:StepD)).toArray) 143 H ?_
   intro e0 _ H
   refine qW 143 e0 0 (sq 4 4) (.agg (stepC (steps[k])).toArray) ((e0,.cells (stepC (steps[k])).toArray 143 (0,0))::(db,.cells #[.bool true,.map (some sb),.map (some nb),.slice sa steps.length sk,.bool armed,.I left,.bool dead] 39 (0,0))::(nb,mapO Value.string ptrV L c)::(sb,mapO Value.string ptrV C.A.1 C.A.2)::(filesH C.fs)) H 0 rfl rfl ?_
   intro W H
   refine uF 0 ?_
   refine uR 2 [.c [7,0,1,0,0,2,0,0,1,0,0],.c [7,0,1,0,0,2,0,0,1,0,1],.c [7,0,1,0,0,2,0,0,2],.b 3,.c [7,0,1,0,0,3],.l [7,0,1,0,0],.b 2,.c [8]] ?_
   refine qG (sq 0 3) ?_
   refine uP 1 ?_
   refine uV 138 0 (H.cells 0 rfl) ?_
   refine uF 1 ?_
   refine qN ((steps[k]).kind) 3 (fun R=>?_) (fun R=>?_)
   ·
    refine uR 3 [.c [7,0,1,0,0,2,0,0,1,0,1,0,0,1],.c [7,0,1,0,0,2,0,0,1,0,1,0,1],.c [7,0,1,0,0,2,0,0,2],.b 3,.c [7,0,1,0,0,3],.l [7,0,1,0,0],.b 2,.c [8]] ?_
    refine qD ((((C.i:Nat):Int):Int)<0) (fun f0=>?_) (fun f0=>?_)
    ·
     refine WK.draw1 5 (qs [0,1,2,3,4]) [(0,.qui),(1,.qui),(2,.qui),(3,.qui),(4,.qui),(5,.seq)] Tryz_mixed (by as_aux_lemma=>kernel_rfl) (by as_aux_lemma=>kernel_rfl) (by as_aux_lemma=>kernel_rfl) ?_
     have H:=H.draw
     generalize({W with drawn:=W.drawn+1}:World)=z0 at H⊢
     refine uV 143 0 (H.cells 0 rfl) ?_
     refine uP 3 ?_
     refine uV 36 1 (H.cells 1 rfl) ?_
     have H:=H.frontM 3 rfl
     refine uKS (name_spec (steps[k]) ((H.lend (M1:=[_]) (W1:=[])).pick [] rfl)) ?_
     rintro _ t0⟨rfl,H'⟩
     have H:=H.back (M1:=[_]) (W1:=[]) H'
     have H:Hp w S O ((sb,mapO Value.string ptrV ((mapN (C.A.1,C.A.2) (steps[k])).1) ((mapN (C.A.1,C.A.2) (steps[k])).2))::_::_::_::_) [_] [] _:=H
     refine uF 0 ?_
     refine uR 1 [.c [7,0,1,0,0,2,0,0,1,0,1,0,1,0],.c [7,0,1,0,0,2,0,0,1,0,1,0,2],.c [7,0,1,0,0,2,0,0,2],.b 3,.c [7,0,1,0,0,3],.l [7,0,1,0,0],.b 2,.c [8]] ?_
     refine qG (sq 0 3) ?_
     refine qP 1 (sq 1 3) [(0,.P db 0),(1,.slice a 0 ca),(4,.I ((C.i:Nat):Int)),(7,.I 0),(8,.I ((C.j:Nat):Int)),(53,.slice sa steps.length sk),(54,.I ((steps.length:Nat):Int)),(55,.I k),(71,.I ((C.i:Nat):Int))] ?_
     refine uI (((C.i:Nat):Int)+1) ?_
     refine uF 1 ?_
     refine uR 1 [.c [7,0,1,0,0,3],.l [7,0,1,0,0],.b 2,.c [8]] ?_
     refine qG (sq 0 2) ?_
     refine uI ((k:Int)+1) ?_
     refine uF 1 ?_
     obtain⟨s,n⟩:∃z:CrS,z=⟨mapN C.A steps[k],C.i+1,C.j,C.fs⟩:=⟨_,rfl⟩
     have hCs:s=crAt 0 ([]:List (BitVec 8)) (A,lc) fs (steps.take (k+1)):=by rw[crAt_step J,←o.1,n];exact(crStep_name R f0).symm
     have K:psOf s.fs=psOf fs:=by rw[n];exact o.2.2.2.2.1
     have M:FilesOk s.fs:=by rw[n];exact o.2.2.2.2.2
     have H:=H.frontM 3 rfl
     have H:=H.frontM 3 rfl
     have H:=H.frontM 3 rfl
     have H:=H.dropM 0
     have H:Hp w S O ((db,.cells #[.bool true,.map (some sb),.map (some nb),.slice sa steps.length sk,.bool armed,.I left,.bool dead] 39 (0,0))::(nb,mapO Value.string ptrV L c)::(sb,mapO Value.string ptrV s.A.1 s.A.2)::(filesH s.fs)) [⟨stepS,143,.slice sa steps.length sk,steps⟩] [] t0:=by rw[n];exact H
     rw[show(((C.i:Nat):Int)+1:Int)=((s.i:Nat):Int)by simp[n],show(((C.j:Nat):Int):Int)=((s.j:Nat):Int)by simp[n]]
     have U:s.i≤k+1:=by rw[n];simp only[];omega
     have V:s.j≤k+1:=by rw[n];simp only[];omega
     skip
     exact uB (F (k+1,s) _ ⟨H,hCs,by omega,U,V,K,M⟩ (by first|omega|(simp only[];omega)))
    ·
     refine uR 2 [.c [7,0,1,0,0,2,0,0,1,0,1,0,1,0],.c [7,0,1,0,0,2,0,0,1,0,1,0,2],.c [7,0,1,0,0,2,0,0,2],.b 3,.c [7,0,1,0,0,3],.l [7,0,1,0,0],.b 2,.c [8]] ?_
     refine qG (sq 0 3) ?_
     refine uP 1 ?_
     refine uI (((C.i:Nat):Int)+1) ?_
     refine uF 1 ?_
     refine uR 1 [.c [7,0,1,0,0,3],.l [7,0,1,0,0],.b 2,.c [8]] ?_
     refine qG (sq 0 2) ?_
     refine uI ((k:Int)+1) ?_
     refine qF 1 [(0,.P db 0),(1,.slice a 0 ca),(4,.I (((C.i:Nat):Int)+1)),(7,.I 0),(8,.I ((C.j:Nat):Int)),(53,.slice sa steps.length sk),(54,.I ((steps.length:Nat):Int)),(55,.I ((k:Int)+1))] ?_
     obtain⟨s,n⟩:∃z:CrS,z=⟨C.A,C.i+1,C.j,C.fs⟩:=⟨_,rfl⟩
     have hCs:s=crAt 0 ([]:List (BitVec 8)) (A,lc) fs (steps.take (k+1)):=by rw[crAt_step J,←o.1,n];exact(crStep_pass R f0).symm
     have K:psOf s.fs=psOf fs:=by rw[n];exact o.2.2.2.2.1
     have M:FilesOk s.fs:=by rw[n];exact o.2.2.2.2.2
     have H:=H.dropM 0
     have H:Hp w S O ((db,.cells #[.bool true,.map (some sb),.map (some nb),.slice sa steps.length sk,.bool armed,.I left,.bool dead] 39 (0,0))::(nb,mapO Value.string ptrV L c)::(sb,mapO Value.string ptrV s.A.1 s.A.2)::(filesH s.fs)) [⟨stepS,143,.slice sa steps.length sk,steps⟩] [] W:=by rw[n];exact H
     rw[show(((C.i:Nat):Int)+1:Int)=((s.i:Nat):Int)by simp[n],show(((C.j:Nat):Int):Int)=((s.j:Nat):Int)by simp[n]]
     have U:s.i≤k+1:=by rw[n];simp only[];omega
     have V:s.j≤k+1:=by rw[n];simp only[];omega
     skip
     exact uB (F (k+1,s) _ ⟨H,hCs,by omega,U,V,K,M⟩ (by first|omega|(simp only[];omega)))
   ·
    obtain⟨q,hq,hqm⟩:=hok.wr steps[k] (List.getElem_mem J) R
    refine uR 3 [.c [7,0,1,0,0,2,0,0,2,0,0],.c [7,0,1,0,0,2,0,0,2,0,1],.c [7,0,1,0,0,2,0,0,3],.b 3,.c [7,0,1,0,0,3],.l [7,0,1,0,0],.b 2,.c [8]] ?_
    refine qG (sq 0 17) ?_
    refine uP 1 ?_
    refine RW.pv (κ:=.seq) (d:=some 74) (r:=(sq 2 17)) (v:=.I (IntKind.i64.wrap (((C.j:Nat):Int).tdiv 8))) (v':=.I (((C.j:Nat):Int)/8)) (by as_aux_lemma=>kernel_rfl) (quo_i64 (by decide) (by omega)) ?_
    refine uP 4 ?_
    refine uD 78 ((((C.j:Nat):Int)/8:Int)<0) (fun u0=>?_) (fun u0=>?_)
    ·
     omega
    ·
     have hbit:bitOf ([]:List (BitVec 8)) C.j=false:=by unfold bitOf;rw[List.getElem?_eq_none (by simp)]
     refine qF 11 [(0,.P db 0),(1,.slice a 0 ca),(4,.I ((C.i:Nat):Int)),(7,.I 0),(8,.I ((C.j:Nat):Int)),(10,.P e0 0),(53,.slice sa steps.length sk),(54,.I ((steps.length:Nat):Int)),(55,.I k),(89,.bool false)] ?_
     refine uR 2 [.c [7,0,1,0,0,2,0,0,3],.b 3,.c [7,0,1,0,0,3],.l [7,0,1,0,0],.b 2,.c [8]] ?_
     refine qG (sq 0 3) ?_
     refine uP 1 ?_
     refine uI (((C.j:Nat):Int)+1) ?_
     refine uF 1 ?_
     refine uR 1 [.c [7,0,1,0,0,3],.l [7,0,1,0,0],.b 2,.c [8]] ?_
     refine qG (sq 0 2) ?_
     refine uI ((k:Int)+1) ?_
     refine uF 1 ?_
     obtain⟨s,n⟩:∃z:CrS,z=⟨C.A,C.i,C.j+1,C.fs⟩:=⟨_,rfl⟩
     have hCs:s=crAt 0 ([]:List (BitVec 8)) (A,lc) fs (steps.take (k+1)):=by rw[crAt_step J,←o.1,n];exact(crStep_no R hbit).symm
     have K:psOf s.fs=psOf fs:=by rw[n];exact o.2.2.2.2.1
     have M:FilesOk s.fs:=by rw[n];exact o.2.2.2.2.2
     have H:=H.dropM 0
     have H:Hp w S O ((db,.cells #[.bool true,.map (some sb),.map (some nb),.slice sa steps.length sk,.bool armed,.I left,.bool dead] 39 (0,0))::(nb,mapO Value.string ptrV L c)::(sb,mapO Value.string ptrV s.A.1 s.A.2)::(filesH s.fs)) [⟨stepS,143,.slice sa steps.length sk,steps⟩] [] W:=by rw[n];exact H
     rw[show(((C.i:Nat):Int):Int)=((s.i:Nat):Int)by simp[n],show(((C.j:Nat):Int)+1:Int)=((s.j:Nat):Int)by simp[n]]
     have U:s.i≤k+1:=by rw[n];simp only[];omega
     have V:s.j≤k+1:=by rw[n];simp only[];omega
     skip
     exact uB (F (k+1,s) _ ⟨H,hCs,by omega,U,V,K,M⟩ (by first|omega|(simp only[];omega)))
  ·
   refine uR 2 [.c [8,0],.c [9]] ?_
   refine qG (sq 0 12) ?_
   refine uP 5 ?_
   refine qW 37 db 3 (sq 6 12) (.slice none 0 0) ((db,.cells #[.bool true,.map (some sb),.map (some nb),.slice none 0 0,.bool armed,.I left,.bool dead] 39 (0,0))::(nb,mapO Value.string ptrV L c)::(sb,mapO Value.string ptrV C.A.1 C.A.2)::(filesH C.fs)) H 0 rfl rfl ?_
   intro _ H
   refine uP 2 ?_
   refine qW 4 db 6 (sq 9 12) (.bool false) ((db,.cells #[.bool true,.map (some sb),.map (some nb),.slice none 0 0,.bool armed,.I left,.bool false] 39 (0,0))::(nb,mapO Value.string ptrV L c)::(sb,mapO Value.string ptrV C.A.1 C.A.2)::(filesH C.fs)) H 0 rfl rfl ?_
   intro _ H
   refine uP 2 ?_
   refine qW 4 db 4 (sq 12 12) (.bool false) ((db,.cells #[.bool true,.map (some sb),.map (some nb),.slice none 0 0,.bool false,.I left,.bool false] 39 (0,0))::(nb,mapO Value.string ptrV L c)::(sb,mapO Value.string ptrV C.A.1 C.A.2)::(filesH C.fs)) H 0 rfl rfl ?_
   intro _ H
   refine qF 0 [(0,.P db 0)] ?_
   refine uR 1 [.c [9,0],.c [10]] ?_
   refine qG (sq 0 9) ?_
   refine uP 4 ?_
   refine uV 36 1 (H.cells 0 rfl) ?_
   have H:=H.frontM 2 rfl
   refine uKS (cloneN ((H.lend (M1:=[_]) (W1:=[])).pick [] rfl)) ?_
   rintro _ _⟨f,rfl,H'⟩
   have H:=H.back (M1:=[_]) (W1:=[]) H'
   have H:Hp w S O ((f,mapO Value.string ptrV C.A.1 C.A.2)::_::_::_::_) [_] [] _:=H
   refine uP 2 ?_
   refine qW 36 db 2 (sq 9 9) (.map (some f)) ((f,mapO Value.string ptrV C.A.1 C.A.2)::(sb,mapO Value.string ptrV C.A.1 C.A.2)::(db,.cells #[.bool true,.map (some sb),.map (some f),.slice none 0 0,.bool false,.I left,.bool false] 39 (0,0))::(nb,mapO Value.string ptrV L c)::(filesH C.fs)) H 2 rfl rfl ?_
   intro _ H
   refine uF 0 ?_
   refine uR 1 [.c [10,0],.c [11]] ?_
   refine qG (sq 0 5) ?_
   refine uP 3 ?_
   refine uV 36 2 (H.cells 2 rfl) ?_
   refine RW.mapRange (κ:=.seq) (d:=some 123) (r:=(sq 5 5)) (T:=36) (mk:=Value.string) (vk:=ptrV) (Kt:=9) (E:=139) (by as_aux_lemma=>kernel_rfl) (nofun) H 0 rfl (by as_aux_lemma=>kernel_rfl) ?_
   intro t _ _ H
   refine uF 0 ?_
   refine uR 1 [.c [11,0],.b 4] ?_
   have v0:steps.take k=steps:=List.take_of_length_le (by omega)
   obtain⟨m,j0,_⟩:=crAt_A 0 ([]:List (BitVec 8)) (A,lc) fs steps
   have hCe:C=crAt 0 ([]:List (BitVec 8)) (A,lc) fs steps:=by rw[o.1,v0]
   have hMA:MOk C.A.1 C.A.2:=by rw[hCe,j0];exact foldN_ok hok.map _
   have hgood:∀e∈C.A.1,∃p,e.2.1=some p∧p∈psOf fs:=by rw[hCe,j0];exact hok.good m
   have hps:=o.2.2.2.2.1
   have hfoA:=o.2.2.2.2.2
   have H:=H.frontM 2 rfl
   have H:=H.frontM 2 rfl
   have H:=H.frontM 3 rfl
   have H:=H.frontM 3 rfl
   have H:=H.frontM 4 rfl
   have H:=H.dropM 0
   have H:=H.dropW 0
   rw[←crF_nil C.fs (fun _=>0)]at H
   have H:Hp w S O (_::_::_::_::(filesH (crF C.fs ([]:NameL) (fun _=>0)))) [] [] _:=H
   have H:=H.drop (M':=((t,iterO f C.A.2 ([]:NameL) C.A.2)::(db,.cells #[.bool true,.map (some sb),.map (some f),.slice none 0 0,.bool false,.I left,.bool false] 39 (0,0))::(f,mapO Value.string ptrV C.A.1 C.A.2)::(sb,mapO Value.string ptrV C.A.1 C.A.2)::(filesH (crF C.fs ([]:NameL) (fun _=>0))))) (W':=[]) (by repeat(first|exact List.Sublist.refl _|exact List.nil_sublist _|apply List.Sublist.cons_cons|apply List.Sublist.cons)) (by repeat(first|exact List.Sublist.refl _|exact List.nil_sublist _|apply List.Sublist.cons_cons|apply List.Sublist.cons))
   refine uL (α:=NameL×NameL×(Nat→Nat)) (g:=25) (p:=[11,0,0]) (fun(dn,lf,ns)=>[(123,.P t 0)]) (fun(dn,lf,ns)w'=>Hp w S O ((t,iterO f C.A.2 dn C.A.2)::(db,.cells #[.bool true,.map (some sb),.map (some f),.slice none 0 0,.bool false,.I left,.bool false] 39 (0,0))::(f,mapO Value.string ptrV C.A.1 C.A.2)::(sb,mapO Value.string ptrV C.A.1 C.A.2)::(filesH (crF C.fs dn ns))) [] [] w'∧(dn++lf).Perm C.A.1) (fun(dn,lf,ns)=>lf.length) (([]:NameL),C.A.1,(fun _=>0)) ⟨H,by simp⟩ ?_
   rintro⟨dn,lf,ns⟩_⟨H,B⟩Y
   refine uR 1 [.c [11,0,0,0],.c [11,0,0,1],.l [11,0,0],.b 4] ?_
   refine qG (sq 0 2) ?_
   refine RW.mapNext (d:=some 124) (r:=(sq 1 2)) (ty:=0) (mk:=Value.string) (vk:=ptrV) (lf:=lf) (by as_aux_lemma=>kernel_rfl) H 2 rfl 0 rfl B hMA.borns hMA.old (Nat.le_refl _) (fun n0=>?_) (fun x o0 g0=>?_)
   ·
    subst n0
    rw[List.append_nil]at B
    refine uF 1 ?_
    refine uR 3 [] ?_
    refine WK.fin (v:=.tuple #[]) Tryz.func25 (by as_aux_lemma=>kernel_rfl) ?_
    have hfin:=crF_perm C.fs B ns
    rw[hfin]at H
    have H:=H.dropM 0
    exact⟨_,rfl,rfl,C,ns,f,hCe,H.ownNil stepS 143⟩
   ·
    intro _ H
    have H:Hp w S O ((t,iterO f C.A.2 (dn++[x]) C.A.2)::_::_::_::_) [] [] _:=H
    refine uF 1 ?_
    refine uR 5 [.c [11,0,0,2,0,0],.c [11,0,0,2,0,1],.b 5,.l [11,0,0],.b 4] ?_
    refine qG (sq 0 3) ?_
    refine RW.mapEntry (κ:=.seq) (d:=some 126) (r:=(sq 1 3)) (mk:=Value.string) (vk:=ptrV) (e:=x) (dn:=dn) (by as_aux_lemma=>kernel_rfl) H 2 rfl 0 rfl ((B.mem_iff).1 (List.mem_append_right _ (g0.mem_iff.2 (List.mem_cons_self ..)))) hMA.borns ?_
    obtain⟨p,hep,hpm⟩:=hgood _ ((B.mem_iff).1 (List.mem_append_right _ (g0.mem_iff.2 (List.mem_cons_self ..))))
    rw[show ptrV x.2.1=.P p 0 from by rw[hep];rfl]
    have hnd:=ps_nodup2 (fs:=crF C.fs dn ns) H [(t,iterO f C.A.2 (dn++[x]) C.A.2),(db,.cells #[.bool true,.map (some sb),.map (some f),.slice none 0 0,.bool false,.I left,.bool false] 39 (0,0)),(f,mapO Value.string ptrV C.A.1 C.A.2),(sb,mapO Value.string ptrV C.A.1 C.A.2)] rfl
    obtain⟨fi,ff,hfi,hfp⟩:=ps_at (fs:=crF C.fs dn ns) (by rw[crF_ps,hps];exact hpm)
    have hfo:=hfoA.crF dn ns ff (List.mem_of_getElem? hfi)
    obtain⟨fp,fS,fn,fX,fxc,fY,fyc,fz⟩:=ff
    simp only at hfp
    subst hfp
    obtain⟨hXk,-,hXb,-,-⟩:=hfo
    simp only at hXk hXb
    have H:=H.perms (M':=((t,iterO f C.A.2 (dn++[x]) C.A.2)::(db,.cells #[.bool true,.map (some sb),.map (some f),.slice none 0 0,.bool false,.I left,.bool false] 39 (0,0))::(f,mapO Value.string ptrV C.A.1 C.A.2)::(sb,mapO Value.string ptrV C.A.1 C.A.2)::(fp,.cells #[.map (some fS),.map (some fn),.I fz] 147 (0,0))::(fS,mapO (Value.int .i64) secVal fX fxc)::(fn,mapO (Value.int .i64) secVal fY fyc)::(filesH ((crF C.fs dn ns).eraseIdx fi)))) (W':=[]) (((filesH_pick hfi).symm.append_left ([(t,iterO f C.A.2 (dn++[x]) C.A.2),(db,.cells #[.bool true,.map (some sb),.map (some f),.slice none 0 0,.bool false,.I left,.bool false] 39 (0,0)),(f,mapO Value.string ptrV C.A.1 C.A.2),(sb,mapO Value.string ptrV C.A.1 C.A.2)]:Heap))) (List.Perm.refl _)
    have H:Hp w S O (_::_::_::_::_::_::_::_) [] [] _:=H
    refine uF 2 ?_
    refine uR 1 [.c [11,0,0,2,0,1,0],.c [11,0,0,2,0,2],.b 5,.l [11,0,0],.b 4] ?_
    refine qG (sq 0 9) ?_
    refine uP 4 ?_
    refine uV 145 0 (H.cells 4 rfl) ?_
    have H:=H.frontM 5 rfl
    refine uKS (cloneX ((H.lend (M1:=[_]) (W1:=[])).pick [] rfl)) ?_
    rintro _ _⟨h,rfl,H'⟩
    have H:=H.back (M1:=[_]) (W1:=[]) H'
    have H:Hp w S O ((h,mapO (Value.int .i64) secVal fX fxc)::_::_::_::_::_::_::_::_) [] [] _:=H
    refine uP 2 ?_
    refine qW 145 fp 1 (sq 9 9) (.map (some h)) ((h,mapO (Value.int .i64) secVal fX fxc)::(fS,mapO (Value.int .i64) secVal fX fxc)::(t,iterO f C.A.2 (dn++[x]) C.A.2)::(db,.cells #[.bool true,.map (some sb),.map (some f),.slice none 0 0,.bool false,.I left,.bool false] 39 (0,0))::(f,mapO Value.string ptrV C.A.1 C.A.2)::(sb,mapO Value.string ptrV C.A.1 C.A.2)::(fp,.cells #[.map (some fS),.map (some h),.I fz] 147 (0,0))::(fn,mapO (Value.int .i64) secVal fY fyc)::(filesH ((crF C.fs dn ns).eraseIdx fi))) H 6 rfl rfl ?_
    intro _ H
    refine uF 0 ?_
    refine qR 1 [.c [11,0,0,2,0,2,0],.c [11,0,0,2,0,3],.b 5,.l [11,0,0],.b 4] [(12,.P fp 0),(123,.P t 0)] ?_
    refine qG (sq 0 4) ?_
    refine uP 3 ?_
    refine qW 3 fp 2 (sq 4 4) (.I 0) ((h,mapO (Value.int .i64) secVal fX fxc)::(fS,mapO (Value.int .i64) secVal fX fxc)::(t,iterO f C.A.2 (dn++[x]) C.A.2)::(db,.cells #[.bool true,.map (some sb),.map (some f),.slice none 0 0,.bool false,.I left,.bool false] 39 (0,0))::(f,mapO Value.string ptrV C.A.1 C.A.2)::(sb,mapO Value.string ptrV C.A.1 C.A.2)::(fp,.cells #[.map (some fS),.map (some h),.I 0] 147 (0,0))::(fn,mapO (Value.int .i64) secVal fY fyc)::(filesH ((crF C.fs dn ns).eraseIdx fi))) H 6 rfl rfl ?_
    intro _ H
    refine uF 0 ?_
    refine uR 1 [.c [11,0,0,2,0,3,0],.c [11,0,0,2,0,4],.b 5,.l [11,0,0],.b 4] ?_
    refine qG (sq 0 5) ?_
    refine uP 3 ?_
    refine uV 145 1 (H.cells 6 rfl) ?_
    refine RW.mapRange (κ:=.seq) (d:=some 143) (r:=(sq 5 5)) (T:=145) (mk:=(Value.int .i64)) (vk:=secVal) (Kt:=3) (E:=141) (by as_aux_lemma=>kernel_rfl) (nofun) H 0 rfl (by as_aux_lemma=>kernel_rfl) ?_
    intro G _ _ H
    refine uF 0 ?_
    refine uR 1 [.c [11,0,0,2,0,4,0],.b 6,.b 5,.l [11,0,0],.b 4] ?_
    have A0:(0:Int)=sizeX ([]:SecM):=rfl
    have H:Hp w S O ((G,iterO h fxc ([]:List (Int×Sec×Nat)) fxc)::_::_::_::_::_::_::(fp,.cells #[.map (some fS),.map (some h),.I (sizeX ([]:SecM))] 147 (0,0))::_::_) [] [] _:=H
    have H:=H.drop (M':=((G,iterO h fxc ([]:SecM) fxc)::(h,mapO (Value.int .i64) secVal fX fxc)::(fS,mapO (Value.int .i64) secVal fX fxc)::(t,iterO f C.A.2 (dn++[x]) C.A.2)::(db,.cells #[.bool true,.map (some sb),.map (some f),.slice none 0 0,.bool false,.I left,.bool false] 39 (0,0))::(f,mapO Value.string ptrV C.A.1 C.A.2)::(sb,mapO Value.string ptrV C.A.1 C.A.2)::(fp,.cells #[.map (some fS),.map (some h),.I (sizeX ([]:SecM))] 147 (0,0))::(fn,mapO (Value.int .i64) secVal fY fyc)::(filesH ((crF C.fs dn ns).eraseIdx fi)))) (W':=[]) (by repeat(first|exact List.Sublist.refl _|exact List.nil_sublist _|apply List.Sublist.cons_cons|apply List.Sublist.cons)) (by repeat(first|exact List.Sublist.refl _|exact List.nil_sublist _|apply List.Sublist.cons_cons|apply List.Sublist.cons))
    refine uL (α:=SecM×SecM) (g:=25) (p:=[11,0,0,2,0,4,0,0]) (fun(u,N)=>[(12,.P fp 0),(123,.P t 0),(143,.P G 0)]) (fun(u,N)w'=>Hp w S O ((G,iterO h fxc u fxc)::(h,mapO (Value.int .i64) secVal fX fxc)::(fS,mapO (Value.int .i64) secVal fX fxc)::(t,iterO f C.A.2 (dn++[x]) C.A.2)::(db,.cells #[.bool true,.map (some sb),.map (some f),.slice none 0 0,.bool false,.I left,.bool false] 39 (0,0))::(f,mapO Value.string ptrV C.A.1 C.A.2)::(sb,mapO Value.string ptrV C.A.1 C.A.2)::(fp,.cells #[.map (some fS),.map (some h),.I (sizeX u)] 147 (0,0))::(fn,mapO (Value.int .i64) secVal fY fyc)::(filesH ((crF C.fs dn ns).eraseIdx fi))) [] [] w'∧(u++N).Perm fX) (fun(u,N)=>N.length) (([]:SecM),fX) ⟨H,by simp⟩ ?_
    rintro⟨u,N⟩_⟨H,D⟩Z
    refine uR 1 [.c [11,0,0,2,0,4,0,0,0],.c [11,0,0,2,0,4,0,0,1],.l [11,0,0,2,0,4,0,0],.b 6,.b 5,.l [11,0,0],.b 4] ?_
    refine qG (sq 0 2) ?_
    refine RW.mapNext (d:=some 144) (r:=(sq 1 2)) (ty:=0) (mk:=(Value.int .i64)) (vk:=secVal) (lf:=N) (by as_aux_lemma=>kernel_rfl) H 1 rfl 0 rfl D hXk.borns hXk.old (Nat.le_refl _) (fun p0=>?_) (fun y q0 h0=>?_)
    ·
     subst p0
     rw[List.append_nil]at D
     have w0:=sizeX_perm D
     rw[w0]at H
     refine uF 1 ?_
     refine uR 4 [.l [11,0,0],.b 4] ?_
     have H:=H.frontM 1 rfl
     have H:=H.frontM 2 rfl
     have H:=H.frontM 7 rfl
     have H:=H.frontM 7 rfl
     have H:=H.frontM 7 rfl
     have H:=H.frontM 7 rfl
     have H:=H.frontM 7 rfl
     have H:=H.frontM 8 rfl
     have H:=H.frontM 8 rfl
     have H:=H.dropM 1
     have H:=H.dropM 0
     have H:=H.perms (M':=((t,iterO f C.A.2 (dn++[x]) C.A.2)::(db,.cells #[.bool true,.map (some sb),.map (some f),.slice none 0 0,.bool false,.I left,.bool false] 39 (0,0))::(f,mapO Value.string ptrV C.A.1 C.A.2)::(sb,mapO Value.string ptrV C.A.1 C.A.2)::(filesH ((crF C.fs dn ns).set fi (visit h ⟨fp,fS,fn,fX,fxc,fY,fyc,fz⟩))))) (W':=[]) (((filesH_put (visit h ⟨fp,fS,fn,fX,fxc,fY,fyc,fz⟩) (List.getElem?_eq_some_iff.1 hfi).1).append_left ([(t,iterO f C.A.2 (dn++[x]) C.A.2),(db,.cells #[.bool true,.map (some sb),.map (some f),.slice none 0 0,.bool false,.I left,.bool false] 39 (0,0)),(f,mapO Value.string ptrV C.A.1 C.A.2),(sb,mapO Value.string ptrV C.A.1 C.A.2)]:Heap))) (List.Perm.refl _)
     rw[←updF_set (g:=visit h) hnd hfi rfl,crF_step C.fs dn ns fp h x hep]at H
     have H:Hp w S O (_::_::_::_::(filesH (crF C.fs (dn++[x]) (fun q_=>if q_=fp then h else ns q_)))) [] [] _:=H
     skip
     exact uB (Y (dn++[x],o0,(fun q_=>if q_=fp then h else ns q_)) _ ⟨H,by rw[List.append_assoc];exact((List.Perm.append_left dn (by assumption)).symm.trans B)⟩ (by have:=List.Perm.length_eq (by assumption:lf.Perm _);simp only[List.length_cons]at this;simp only[];omega))
    ·
     intro _ H
     have H:Hp w S O ((G,iterO h fxc (u++[y]) fxc)::_::_::_::_::_::_::_::_::_) [] [] _:=H
     have hxb:=hXb _ ((D.mem_iff).1 (List.mem_append_right _ (h0.mem_iff.2 (List.mem_cons_self ..))))
     refine uF 1 ?_
     refine uR 5 [.c [11,0,0,2,0,4,0,0,2,0,0],.c [11,0,0,2,0,4,0,0,2,0,1],.b 7,.l [11,0,0,2,0,4,0,0],.b 6,.b 5,.l [11,0,0],.b 4] ?_
     refine qG (sq 0 3) ?_
     refine RW.mapEntry (κ:=.seq) (d:=some 146) (r:=(sq 1 3)) (mk:=(Value.int .i64)) (vk:=secVal) (e:=y) (dn:=u) (by as_aux_lemma=>kernel_rfl) H 1 rfl 0 rfl ((D.mem_iff).1 (List.mem_append_right _ (h0.mem_iff.2 (List.mem_cons_self ..)))) hXk.borns ?_
     refine uF 2 ?_
     refine qG (sq 0 11) ?_
     refine uP 4 ?_
     refine uV 3 2 (H.cells 7 rfl) ?_
     refine uP 1 ?_
     refine uI (y.1+1) ?_
     refine uP 3 ?_
     refine qW 3 fp 2 (sq 11 11) (.I (if y.1+1>(sizeX u)then y.1+1 else(sizeX u))) ((G,iterO h fxc (u++[y]) fxc)::(h,mapO (Value.int .i64) secVal fX fxc)::(fS,mapO (Value.int .i64) secVal fX fxc)::(t,iterO f C.A.2 (dn++[x]) C.A.2)::(db,.cells #[.bool true,.map (some sb),.map (some f),.slice none 0 0,.bool false,.I left,.bool false] 39 (0,0))::(f,mapO Value.string ptrV C.A.1 C.A.2)::(sb,mapO Value.string ptrV C.A.1 C.A.2)::(fp,.cells #[.map (some fS),.map (some h),.I (if y.1+1>(sizeX u)then y.1+1 else(sizeX u))] 147 (0,0))::(fn,mapO (Value.int .i64) secVal fY fyc)::(filesH ((crF C.fs dn ns).eraseIdx fi))) H 7 rfl rfl ?_
     intro x0 H
     refine uF 0 ?_
     refine qR 1 [.l [11,0,0,2,0,4,0,0],.b 6,.b 5,.l [11,0,0],.b 4] [(12,.P fp 0),(123,.P t 0),(143,.P G 0)] ?_
     have hz:=sizeX_snoc u y
     have H:Hp w S O ((G,iterO h fxc (u++[y]) fxc)::(h,mapO (Value.int .i64) secVal fX fxc)::(fS,mapO (Value.int .i64) secVal fX fxc)::(t,iterO f C.A.2 (dn++[x]) C.A.2)::(db,.cells #[.bool true,.map (some sb),.map (some f),.slice none 0 0,.bool false,.I left,.bool false] 39 (0,0))::(f,mapO Value.string ptrV C.A.1 C.A.2)::(sb,mapO Value.string ptrV C.A.1 C.A.2)::(fp,.cells #[.map (some fS),.map (some h),.I (sizeX (u++[y]))] 147 (0,0))::(fn,mapO (Value.int .i64) secVal fY fyc)::(filesH ((crF C.fs dn ns).eraseIdx fi))) [] [] x0:=by rw[hz];exact H
     skip
     exact uB (Z (u++[y],q0) _ ⟨H,by rw[List.append_assoc];exact((List.Perm.append_left u (by assumption)).symm.trans D)⟩ (by have:=List.Perm.length_eq (by assumption:N.Perm _);simp only[List.length_cons]at this;simp only[];omega))
set_option maxHeartbeats 4000000 in
theorem crash_some{S:Nat→Prop}{w:World}{O:List Nat}{db sb nb sk c lc ca:Nat}{sa a:Option Addr}{L A:NameL}{fs:List FileD}{steps:List StepD}{armed:Bool}{left:Int}{dead:Bool}{xs:List (BitVec 8)}(hxs:0<xs.length)(hst:steps.length≤1000000000)(hok:CrOk (A,lc) fs steps)(H0:Hp w S O ((db,.cells #[.bool true,.map (some sb),.map (some nb),.slice sa steps.length sk,.bool armed,.I left,.bool dead] 39 (0,0))::(nb,mapO Value.string ptrV L c)::(sb,mapO Value.string ptrV A lc)::(filesH fs)) [⟨stepS,143,.slice sa steps.length sk,steps⟩] [Rp SB [.slice a xs.length ca] xs] w):
 Calls Tryz.prog 25 #[.P db 0,.slice a xs.length ca] w (Ret fun v w'=>v=.tuple #[]∧∃(C:CrS)(ns:Nat→Nat)(nb2:Nat),C=crAt (((xs[0].toNat:Nat):Int)%(((nmC steps:Nat):Int)+1)) (xs.drop 1) (A,lc) fs steps∧Hp w S O ((db,.cells #[.bool true,.map (some sb),.map (some nb2),.slice none 0 0,.bool false,.I left,.bool false] 39 (0,0))::(nb2,mapO Value.string ptrV C.A.1 C.A.2)::(sb,mapO Value.string ptrV C.A.1 C.A.2)::filesH (crF C.fs C.A.1 ns)) [⟨stepS,143,.slice none 0 0,([]:List StepD)⟩] [] w'):=by
 refine uS1 Tryz.func25 ?_
 have H:=H0
 refine uR 2 [.c [0,0],.c [0,1],.c [1]] ?_
 refine qG (sq 0 9) ?_
 refine uP 6 ?_
 refine uV 4 0 (H.cells 0 rfl) ?_
 refine uF 2 ?_
 refine uR 6 [.c [2,0,0],.c [2,0,1],.c [3]] ?_
 refine qG (sq 0 6) ?_
 refine uP 3 ?_
 refine uV 37 3 (H.cells 0 rfl) ?_
 refine uF 2 ?_
 refine uR 1 [.c [2,0,1,0],.b 0,.c [3]] ?_
 refine uL (α:=Nat) (g:=25) (p:=[2,0,1,0,0]) (fun k=>[(0,.P db 0),(1,.slice a xs.length ca),(4,.I ((nmC (steps.take k):Nat):Int)),(26,.slice sa steps.length sk),(27,.I ((steps.length:Nat):Int)),(28,.I k)]) (fun k w'=>Hp w S O ((db,.cells #[.bool true,.map (some sb),.map (some nb),.slice sa steps.length sk,.bool armed,.I left,.bool dead] 39 (0,0))::(nb,mapO Value.string ptrV L c)::(sb,mapO Value.string ptrV A lc)::(filesH fs)) [⟨stepS,143,.slice sa steps.length sk,steps⟩] [Rp SB [.slice a xs.length ca] xs] w'∧k≤steps.length) (fun k=>steps.length-k) 0 ⟨H,Nat.zero_le _⟩ ?_
 rintro k w2⟨H,_⟩c0
 have N0:=nmC_le steps k
 refine uR 3 [.c [2,0,1,0,0,1,0],.c [2,0,1,0,0,2],.l [2,0,1,0,0],.b 0,.c [3]] ?_
 refine qD (((k:Int):Int)<((steps.length:Nat):Int)) (fun h3=>?_) (fun h3=>?_)
 ·
  refine uR 4 [.c [2,0,1,0,0,2,0,0,0],.c [2,0,1,0,0,2,0,0,1],.b 1,.c [2,0,1,0,0,3],.l [2,0,1,0,0],.b 0,.c [3]] ?_
  refine qG (sq 0 4) ?_
  have D0:steps.length=steps.length:=rfl
  have g0:k<steps.length:=by omega
  refine RW.indexW (κ:=.seq) (d:=some 30) (r:=(sq 1 4)) (T:=37) (e:=143) (m:=69) (ik:=.i64) (ix:=(k:Int)) (sh:=stepS) (xs:=steps) (a:=sa) (len:=steps.length) (cap:=sk) (by as_aux_lemma=>kernel_rfl) (by as_aux_lemma=>kernel_rfl) rfl H k (by omega) g0 D0 ?_
  intro _ _ _ h0 s0
  obtain⟨rfl,_⟩:=s0
  refine uV 143 0 h0 ?_
  refine uC ((stepC (⟨0,none,(⟨#[]⟩:ByteArray),(⟨#[]⟩:ByteArray),0,zeroSec⟩:StepD)).toArray) 143 H ?_
  intro q0 _ H
  refine qW 143 q0 0 (sq 4 4) (.agg (stepC (steps[k])).toArray) ((q0,.cells (stepC (steps[k])).toArray 143 (0,0))::(db,.cells #[.bool true,.map (some sb),.map (some nb),.slice sa steps.length sk,.bool armed,.I left,.bool dead] 39 (0,0))::(nb,mapO Value.string ptrV L c)::(sb,mapO Value.string ptrV A lc)::(filesH fs)) H 0 rfl rfl ?_
  intro _ H
  refine uF 0 ?_
  refine uR 1 [.c [2,0,1,0,0,2,0,0,1,0],.c [2,0,1,0,0,2,0,0,2],.b 1,.c [2,0,1,0,0,3],.l [2,0,1,0,0],.b 0,.c [3]] ?_
  refine qG (sq 0 3) ?_
  refine uP 1 ?_
  refine uV 138 0 (H.cells 0 rfl) ?_
  refine uF 1 ?_
  refine qN ((steps[k]).kind) 3 (fun i0=>?_) (fun i0=>?_)
  ·
   refine qG (sq 0 3) ?_
   refine uP 1 ?_
   refine uI (((nmC (steps.take k):Nat):Int)+1) ?_
   refine uF 1 ?_
   refine uR 1 [.c [2,0,1,0,0,3],.l [2,0,1,0,0],.b 0,.c [3]] ?_
   refine qG (sq 0 2) ?_
   refine uI ((k:Int)+1) ?_
   refine uF 1 ?_
   have eN:=nmC_yes g0 i0
   rw[show(((nmC (steps.take k):Nat):Int)+1:Int)=((nmC (steps.take (k+1)):Nat):Int)by rw[eN];push_cast;rfl]
   have H:=H.dropM 0
   exact uB (c0 (k+1) _ ⟨H,by omega⟩ (by first|omega|(simp only[];omega)))
  ·
   refine qR 2 [.c [2,0,1,0,0,3],.l [2,0,1,0,0],.b 0,.c [3]] [(0,.P db 0),(1,.slice a xs.length ca),(4,.I ((nmC (steps.take k):Nat):Int)),(26,.slice sa steps.length sk),(27,.I ((steps.length:Nat):Int)),(28,.I k)] ?_
   refine qG (sq 0 2) ?_
   refine uI ((k:Int)+1) ?_
   refine uF 1 ?_
   have eN:=nmC_no g0 i0
   rw[show(((nmC (steps.take k):Nat):Int):Int)=((nmC (steps.take (k+1)):Nat):Int)by rw[eN]]
   have H:=H.dropM 0
   exact uB (c0 (k+1) _ ⟨H,by omega⟩ (by first|omega|(simp only[];omega)))
 ·
  refine uR 6 [.c [4,0,1],.c [5]] ?_
  refine qD ((((xs.length:Nat):Int):Int)>0) (fun E0=>?_) (fun E0=>?_)
  ·
   have hnn:=nmC_le steps steps.length
   rw[List.take_length]at hnn
   rw[show steps.take k=steps from List.take_of_length_le (by omega)]
   refine uR 1 [.c [4,0,1,0,0],.c [4,0,1,0,1],.c [5]] ?_
   refine qG (sq 0 8) ?_
   refine uP 1 ?_
   have t0:0<xs.length:=by omega
   refine uX 23 0 H 0 rfl 0 (by omega) (List.getElem?_eq_getElem t0) ?_
   intro X Y _ u0 H
   obtain rfl:=u0
   refine uV 5 0 (H.fc 0 rfl) ?_
   refine RW.pv (κ:=.seq) (d:=some 44) (r:=(sq 4 8)) (v:=.I (IntKind.i64.wrap ((((xs[0]).toNat:Nat):Int)))) (v':=.I (((xs[0]).toNat:Nat):Int)) (by as_aux_lemma=>kernel_rfl) (bv_i648 _ (by have:=(xs[0]).isLt;omega)) ?_
   refine uP 1 ?_
   refine uI (((nmC steps:Nat):Int)+1) ?_
   refine RW.readS (κ:=.seq) (d:=some 47) (r:=(sq 7 8)) (s:=semV (Op.intDiv .rem .i64 (((xs[0]).toNat:Nat):Int) (((nmC steps:Nat):Int)+1))) (v:=.I ((((xs[0]).toNat:Nat):Int)%(((nmC steps:Nat):Int)+1))) (by as_aux_lemma=>kernel_rfl) (fun w' _=>semV_run (rem_run_i64 (by omega) (by omega))) ?_
   refine qF 1 [(0,.P db 0),(1,.slice a xs.length ca),(7,.I ((((xs[0]).toNat:Nat):Int)%(((nmC steps:Nat):Int)+1)))] ?_
   refine qG (sq 0 3) ?_
   refine uP 1 ?_
   refine RW.slice (κ:=.seq) (d:=some 49) (r:=(sq 2 3)) (T:=23) (e:=5) (sh:=Sb) (a:=a) (len:=xs.length) (cap:=ca) (zs:=(xs.drop 1)) (lv:=(some (.I 1))) (hv:=none) (by as_aux_lemma=>kernel_rfl) (by as_aux_lemma=>kernel_rfl) H 1 rfl 1 xs.length (.mk (by omega)) .nil (by omega) (by omega) (by rw[List.take_of_length_le (Nat.le_refl _)]) ?_
   intro D H
   refine uF 1 ?_
   refine uR 6 [.c [7,0,0],.c [7,0,1],.c [8]] ?_
   refine qG (sq 0 6) ?_
   refine uP 3 ?_
   refine uV 37 3 (H.cells 0 rfl) ?_
   refine uF 2 ?_
   refine qR 1 [.c [7,0,1,0],.b 2,.c [8]] [(0,.P db 0),(1,.slice D (xs.drop 1).length (ca-1)),(4,.I 0),(7,.I ((((xs[0]).toNat:Nat):Int)%(((nmC steps:Nat):Int)+1))),(8,.I 0),(53,.slice sa steps.length sk),(54,.I ((steps.length:Nat):Int)),(55,.I 0)] ?_
   obtain⟨C0,j0⟩:∃z:CrS,z=⟨(A,lc),0,0,fs⟩:=⟨_,rfl⟩
   have H:Hp w S O ((db,.cells #[.bool true,.map (some sb),.map (some nb),.slice sa steps.length sk,.bool armed,.I left,.bool dead] 39 (0,0))::(nb,mapO Value.string ptrV L c)::(sb,mapO Value.string ptrV C0.A.1 C0.A.2)::(filesH C0.fs)) [⟨stepS,143,.slice sa steps.length sk,steps⟩] [Rp SB [.slice D (xs.drop 1).length (ca-1)] (xs.drop 1),Fc X Y [.int .u8 (((xs[0]).toNat:Nat):Int)],Rp SB [.slice a xs.length ca] xs] w2:=by rw[j0];exact H
   refine WK.loop (α:=Nat×CrS) (b:=cd Tryz.prog 25 [7,0,1,0,0]) (by as_aux_lemma=>kernel_rfl) (fun(k,C)=>[(0,.P db 0),(1,.slice D (xs.drop 1).length (ca-1)),(4,.I ((C.i:Nat):Int)),(7,.I ((((xs[0]).toNat:Nat):Int)%(((nmC steps:Nat):Int)+1))),(8,.I ((C.j:Nat):Int)),(53,.slice sa steps.length sk),(54,.I ((steps.length:Nat):Int)),(55,.I k)]) (fun(k,C)w'=>Hp w S O ((db,.cells #[.bool true,.map (some sb),.map (some nb),.slice sa steps.length sk,.bool armed,.I left,.bool dead] 39 (0,0))::(nb,mapO Value.string ptrV L c)::(sb,mapO Value.string ptrV C.A.1 C.A.2)::(filesH C.fs)) [⟨stepS,143,.slice sa steps.length sk,steps⟩] [Rp SB [.slice D (xs.drop 1).length (ca-1)] (xs.drop 1),Fc X Y [.int .u8 (((xs[0]).toNat:Nat):Int)],Rp SB [.slice a xs.length ca] xs] w'∧C=crAt (((xs[0].toNat:Nat):Int)%(((nmC steps:Nat):Int)+1)) (xs.drop 1) (A,lc) fs (steps.take k)∧k≤steps.length∧C.i≤k∧C.j≤k∧psOf C.fs=psOf fs∧FilesOk C.fs) (fun(k,C)=>steps.length-k) (0,C0) ⟨H,by rw[j0];exact⟨rfl,Nat.zero_le _,Nat.le_refl _,Nat.le_refl _,rfl,hok.files⟩⟩ (by rw[j0];rfl) ?_
   rintro⟨k,C⟩_⟨H,t⟩F
   obtain⟨hvk,hvi,hvj⟩:=And.intro t.2.1 (And.intro t.2.2.1 t.2.2.2.1)
   refine uR 3 [.c [7,0,1,0,0,1,0],.c [7,0,1,0,0,2],.l [7,0,1,0,0],.b 2,.c [8]] ?_
   refine qD (((k:Int):Int)<((steps.length:Nat):Int)) (fun F0=>?_) (fun F0=>?_)
   ·
    refine uR 4 [.c [7,0,1,0,0,2,0,0,0],.c [7,0,1,0,0,2,0,0,1],.b 3,.c [7,0,1,0,0,3],.l [7,0,1,0,0],.b 2,.c [8]] ?_
    refine qG (sq 0 4) ?_
    have v0:steps.length=steps.length:=rfl
    have M:k<steps.length:=by omega
    refine RW.indexW (κ:=.seq) (d:=some 57) (r:=(sq 1 4)) (T:=37) (e:=143) (m:=69) (ik:=.i64) (ix:=(k:Int)) (sh:=stepS) (xs:=steps) (a:=sa) (len:=steps.length) (cap:=sk) (by as_aux_lemma=>kernel_rfl) (by as_aux_lemma=>kernel_rfl) rfl H k (by omega) M v0 ?_
    intro _ _ _ d0 w0
    obtain⟨rfl,_⟩:=w0
    refine uV 143 0 d0 ?_
    refine uC ((stepC (⟨0,none,(⟨#[]⟩:ByteArray),(⟨#[]⟩:ByteArray),0,zeroSec⟩:StepD)).toArray) 143 H ?_
    intro R _ H
    refine qW 143 R 0 (sq 4 4) (.agg (stepC (steps[k])).toArray) ((R,.cells (stepC (steps[k])).toArray 143 (0,0))::(db,.cells #[.bool true,.map (some sb),.map (some nb),.slice sa steps.length sk,.bool armed,.I left,.bool dead] 39 (0,0))::(nb,mapO Value.string ptrV L c)::(sb,mapO Value.string ptrV C.A.1 C.A.2)::(filesH C.fs)) H 0 rfl rfl ?_
    intro Z H
    refine uF 0 ?_
    refine uR 2 [.c [7,0,1,0,0,2,0,0,1,0,0],.c [7,0,1,0,0,2,0,0,1,0,1],.c [7,0,1,0,0,2,0,0,2],.b 3,.c [7,0,1,0,0,3],.l [7,0,1,0,0],.b 2,.c [8]] ?_
    refine qG (sq 0 3) ?_
    refine uP 1 ?_
    refine uV 138 0 (H.cells 0 rfl) ?_
    refine uF 1 ?_
    refine qN ((steps[k]).kind) 3 (fun a0=>?_) (fun a0=>?_)
    ·
     refine uR 3 [.c [7,0,1,0,0,2,0,0,1,0,1,0,0,1],.c [7,0,1,0,0,2,0,0,1,0,1,0,1],.c [7,0,1,0,0,2,0,0,2],.b 3,.c [7,0,1,0,0,3],.l [7,0,1,0,0],.b 2,.c [8]] ?_
     refine qD ((((C.i:Nat):Int):Int)<(((xs[0]).toNat:Nat):Int)%(((nmC steps:Nat):Int)+1)) (fun k0=>?_) (fun k0=>?_)
     ·
      refine WK.draw1 5 (qs [0,1,2,3,4]) [(0,.qui),(1,.qui),(2,.qui),(3,.qui),(4,.qui),(5,.seq)] Tryz_mixed (by as_aux_lemma=>kernel_rfl) (by as_aux_lemma=>kernel_rfl) (by as_aux_lemma=>kernel_rfl) ?_
      have H:=H.draw
      generalize({Z with drawn:=Z.drawn+1}:World)=O0 at H⊢
      refine uV 143 0 (H.cells 0 rfl) ?_
      refine uP 3 ?_
      refine uV 36 1 (H.cells 1 rfl) ?_
      have H:=H.frontM 3 rfl
      refine uKS (name_spec (steps[k]) ((H.lend (M1:=[_]) (W1:=[])).pick [] rfl)) ?_
      rintro _ G0⟨rfl,H'⟩
      have H:=H.back (M1:=[_]) (W1:=[]) H'
      have H:Hp w S O ((sb,mapO Value.string ptrV ((mapN (C.A.1,C.A.2) (steps[k])).1) ((mapN (C.A.1,C.A.2) (steps[k])).2))::_::_::_::_) [_] [_,_,_] _:=H
      refine uF 0 ?_
      refine uR 1 [.c [7,0,1,0,0,2,0,0,1,0,1,0,1,0],.c [7,0,1,0,0,2,0,0,1,0,1,0,2],.c [7,0,1,0,0,2,0,0,2],.b 3,.c [7,0,1,0,0,3],.l [7,0,1,0,0],.b 2,.c [8]] ?_
      refine qG (sq 0 3) ?_
      refine qP 1 (sq 1 3) [(0,.P db 0),(1,.slice D (xs.drop 1).length (ca-1)),(4,.I ((C.i:Nat):Int)),(7,.I ((((xs[0]).toNat:Nat):Int)%(((nmC steps:Nat):Int)+1))),(8,.I ((C.j:Nat):Int)),(53,.slice sa steps.length sk),(54,.I ((steps.length:Nat):Int)),(55,.I k),(71,.I ((C.i:Nat):Int))] ?_
      refine uI (((C.i:Nat):Int)+1) ?_
      refine uF 1 ?_
      refine uR 1 [.c [7,0,1,0,0,3],.l [7,0,1,0,0],.b 2,.c [8]] ?_
      refine qG (sq 0 2) ?_
      refine uI ((k:Int)+1) ?_
      refine uF 1 ?_
      obtain⟨o,n⟩:∃z:CrS,z=⟨mapN C.A steps[k],C.i+1,C.j,C.fs⟩:=⟨_,rfl⟩
      have hCs:o=crAt (((xs[0].toNat:Nat):Int)%(((nmC steps:Nat):Int)+1)) (xs.drop 1) (A,lc) fs (steps.take (k+1)):=by rw[crAt_step M,←t.1,n];exact(crStep_name a0 k0).symm
      have G:psOf o.fs=psOf fs:=by rw[n];exact t.2.2.2.2.1
      have J:FilesOk o.fs:=by rw[n];exact t.2.2.2.2.2
      have H:=H.frontM 3 rfl
      have H:=H.frontM 3 rfl
      have H:=H.frontM 3 rfl
      have H:=H.dropM 0
      have H:Hp w S O ((db,.cells #[.bool true,.map (some sb),.map (some nb),.slice sa steps.length sk,.bool armed,.I left,.bool dead] 39 (0,0))::(nb,mapO Value.string ptrV L c)::(sb,mapO Value.string ptrV o.A.1 o.A.2)::(filesH o.fs)) [⟨stepS,143,.slice sa steps.length sk,steps⟩] [Rp SB [.slice D (xs.drop 1).length (ca-1)] (xs.drop 1),Fc X Y [.int .u8 (((xs[0]).toNat:Nat):Int)],Rp SB [.slice a xs.length ca] xs] G0:=by rw[n];exact H
      rw[show(((C.i:Nat):Int)+1:Int)=((o.i:Nat):Int)by simp[n],show(((C.j:Nat):Int):Int)=((o.j:Nat):Int)by simp[n]]
      have U:o.i≤k+1:=by rw[n];simp only[];omega
      have V:o.j≤k+1:=by rw[n];simp only[];omega
      skip
      exact uB (F (k+1,o) _ ⟨H,hCs,by omega,U,V,G,J⟩ (by first|omega|(simp only[];omega)))
     ·
      refine uR 2 [.c [7,0,1,0,0,2,0,0,1,0,1,0,1,0],.c [7,0,1,0,0,2,0,0,1,0,1,0,2],.c [7,0,1,0,0,2,0,0,2],.b 3,.c [7,0,1,0,0,3],.l [7,0,1,0,0],.b 2,.c [8]] ?_
      refine qG (sq 0 3) ?_
      refine uP 1 ?_
      refine uI (((C.i:Nat):Int)+1) ?_
      refine uF 1 ?_
      refine uR 1 [.c [7,0,1,0,0,3],.l [7,0,1,0,0],.b 2,.c [8]] ?_
      refine qG (sq 0 2) ?_
      refine uI ((k:Int)+1) ?_
      refine qF 1 [(0,.P db 0),(1,.slice D (xs.drop 1).length (ca-1)),(4,.I (((C.i:Nat):Int)+1)),(7,.I ((((xs[0]).toNat:Nat):Int)%(((nmC steps:Nat):Int)+1))),(8,.I ((C.j:Nat):Int)),(53,.slice sa steps.length sk),(54,.I ((steps.length:Nat):Int)),(55,.I ((k:Int)+1))] ?_
      obtain⟨o,n⟩:∃z:CrS,z=⟨C.A,C.i+1,C.j,C.fs⟩:=⟨_,rfl⟩
      have hCs:o=crAt (((xs[0].toNat:Nat):Int)%(((nmC steps:Nat):Int)+1)) (xs.drop 1) (A,lc) fs (steps.take (k+1)):=by rw[crAt_step M,←t.1,n];exact(crStep_pass a0 k0).symm
      have G:psOf o.fs=psOf fs:=by rw[n];exact t.2.2.2.2.1
      have J:FilesOk o.fs:=by rw[n];exact t.2.2.2.2.2
      have H:=H.dropM 0
      have H:Hp w S O ((db,.cells #[.bool true,.map (some sb),.map (some nb),.slice sa steps.length sk,.bool armed,.I left,.bool dead] 39 (0,0))::(nb,mapO Value.string ptrV L c)::(sb,mapO Value.string ptrV o.A.1 o.A.2)::(filesH o.fs)) [⟨stepS,143,.slice sa steps.length sk,steps⟩] [Rp SB [.slice D (xs.drop 1).length (ca-1)] (xs.drop 1),Fc X Y [.int .u8 (((xs[0]).toNat:Nat):Int)],Rp SB [.slice a xs.length ca] xs] Z:=by rw[n];exact H
      rw[show(((C.i:Nat):Int)+1:Int)=((o.i:Nat):Int)by simp[n],show(((C.j:Nat):Int):Int)=((o.j:Nat):Int)by simp[n]]
      have U:o.i≤k+1:=by rw[n];simp only[];omega
      have V:o.j≤k+1:=by rw[n];simp only[];omega
      skip
      exact uB (F (k+1,o) _ ⟨H,hCs,by omega,U,V,G,J⟩ (by first|omega|(simp only[];omega)))
    ·
     obtain⟨q,hq,hqm⟩:=hok.wr steps[k] (List.getElem_mem M) a0
     refine uR 3 [.c [7,0,1,0,0,2,0,0,2,0,0],.c [7,0,1,0,0,2,0,0,2,0,1],.c [7,0,1,0,0,2,0,0,3],.b 3,.c [7,0,1,0,0,3],.l [7,0,1,0,0],.b 2,.c [8]] ?_
     refine qG (sq 0 17) ?_
     refine uP 1 ?_
     refine RW.pv (κ:=.seq) (d:=some 74) (r:=(sq 2 17)) (v:=.I (IntKind.i64.wrap (((C.j:Nat):Int).tdiv 8))) (v':=.I (((C.j:Nat):Int)/8)) (by as_aux_lemma=>kernel_rfl) (quo_i64 (by decide) (by omega)) ?_
     refine uP 4 ?_
     refine uD 78 ((((C.j:Nat):Int)/8:Int)<(((xs.drop 1).length:Nat):Int)) (fun I0=>?_) (fun I0=>?_)
     ·
      refine qP 2 (sq 8 17) [(0,.P db 0),(1,.slice D (xs.drop 1).length (ca-1)),(4,.I ((C.i:Nat):Int)),(7,.I ((((xs[0]).toNat:Nat):Int)%(((nmC steps:Nat):Int)+1))),(8,.I ((C.j:Nat):Int)),(10,.P R 0),(53,.slice sa steps.length sk),(54,.I ((steps.length:Nat):Int)),(55,.I k),(78,.bool true),(79,.slice D (xs.drop 1).length (ca-1)),(80,.I ((C.j:Nat):Int))] ?_
      refine RW.pv (κ:=.seq) (d:=some 81) (r:=(sq 9 17)) (v:=.I (IntKind.i64.wrap (((C.j:Nat):Int).tdiv 8))) (v':=.I (((C.j:Nat):Int)/8)) (by as_aux_lemma=>kernel_rfl) (quo_i64 (by decide) (by omega)) ?_
      have x0:(C.j/8)<(xs.drop 1).length:=by omega
      refine uX 23 (((C.j:Nat):Int)/8) H 0 rfl (C.j/8) (by omega) (List.getElem?_eq_getElem x0) ?_
      intro l0 m0 _ y0 H
      obtain rfl:=y0
      refine uV 5 0 (H.fc 0 rfl) ?_
      refine uP 1 ?_
      refine RW.pv (κ:=.seq) (d:=some 85) (r:=(sq 13 17)) (v:=.I (((C.j:Nat):Int).tmod 8)) (v':=.I (((C.j:Nat):Int)%8)) (by as_aux_lemma=>kernel_rfl) (rem_id (by omega)) ?_
      refine RW.readS (κ:=.seq) (d:=some 86) (r:=(sq 14 17)) (s:=semV (Op.shift .shr .u8 ((((xs.drop 1)[(C.j/8)]).toNat:Nat):Int) .i64 (((C.j:Nat):Int)%8))) (v:=.int .u8 (((((xs.drop 1)[(C.j/8)])>>>(C.j%8)).toNat:Nat):Int)) (by as_aux_lemma=>kernel_rfl) (fun w' _=>semV_run (shr_run8 _ (j:=(C.j%8)) (by omega) (by omega))) ?_
      refine RW.pv (κ:=.seq) (d:=some 87) (r:=(sq 15 17)) (v:=.int .u8 (IntKind.u8.wrap ((BitVec.ofInt 8 (((((xs.drop 1)[(C.j/8)])>>>(C.j%8)).toNat:Nat):Int)&&&BitVec.ofInt 8 1).toNat:Nat))) (v':=.int .u8 (((((((xs.drop 1)[(C.j/8)])>>>(C.j%8))&&&(1#8)).toNat:Nat):Int))) (by as_aux_lemma=>kernel_rfl) (bv_and8 (bvi _) (by decide)) ?_
      refine uF 2 ?_
      refine qD ((((((((xs.drop 1)[(C.j/8)])>>>(C.j%8))&&&(1#8)).toNat:Nat):Int):Int)>0) (fun n0=>?_) (fun n0=>?_)
      ·
       have hbit:bitOf (xs.drop 1) C.j=true:=by
        unfold bitOf
        rw[List.getElem?_eq_getElem (show C.j/8<(xs.drop 1).length by omega)]
        exact decide_eq_true n0
       have hnd:=ps_nodup2 (fs:=C.fs) H [(R,.cells (stepC (steps[k])).toArray 143 (0,0)),(db,.cells #[.bool true,.map (some sb),.map (some nb),.slice sa steps.length sk,.bool armed,.I left,.bool dead] 39 (0,0)),(nb,mapO Value.string ptrV L c),(sb,mapO Value.string ptrV C.A.1 C.A.2)] rfl
       obtain⟨fi,ff,hfi,hfp⟩:=ps_at (fs:=C.fs) (by rw[t.2.2.2.2.1];exact hqm)
       obtain⟨fp,fS,fn,fX,fxc,fY,fyc,fz⟩:=ff
       simp only at hfp
       subst hfp
       have H:=H.perms (M':=((R,.cells (stepC (steps[k])).toArray 143 (0,0))::(db,.cells #[.bool true,.map (some sb),.map (some nb),.slice sa steps.length sk,.bool armed,.I left,.bool dead] 39 (0,0))::(nb,mapO Value.string ptrV L c)::(sb,mapO Value.string ptrV C.A.1 C.A.2)::(fp,.cells #[.map (some fS),.map (some fn),.I fz] 147 (0,0))::(fS,mapO (Value.int .i64) secVal fX fxc)::(fn,mapO (Value.int .i64) secVal fY fyc)::(filesH (C.fs.eraseIdx fi)))) (W':=[⟨stepS,143,.slice sa steps.length sk,steps⟩]) (((filesH_pick hfi).symm.append_left ([(R,.cells (stepC (steps[k])).toArray 143 (0,0)),(db,.cells #[.bool true,.map (some sb),.map (some nb),.slice sa steps.length sk,.bool armed,.I left,.bool dead] 39 (0,0)),(nb,mapO Value.string ptrV L c),(sb,mapO Value.string ptrV C.A.1 C.A.2)]:Heap))) (List.Perm.refl _)
       have H:Hp w S O (_::_::_::_::_::_::_::_) [_] [Fc l0 m0 [.int .u8 ((((xs.drop 1)[(C.j/8)]).toNat:Nat):Int)],_,_,_] _:=H
       refine WK.draw1 9 (qs [0,1,2,3,4,5,6,7,8]) [(0,.qui),(1,.qui),(2,.qui),(3,.qui),(4,.qui),(5,.qui),(6,.qui),(7,.qui),(8,.qui),(9,.seq)] Tryz_mixed (by as_aux_lemma=>kernel_rfl) (by as_aux_lemma=>kernel_rfl) (by as_aux_lemma=>kernel_rfl) ?_
       have H:=H.draw
       generalize({Z with drawn:=Z.drawn+1}:World)=P0 at H⊢
       refine uP 1 ?_
       refine qL .qui 91 [(2,.qui),(3,.qui),(4,.qui),(5,.qui),(6,.qui),(7,.qui),(8,.qui),(9,.seq)] 139 R 1 1 (ptrV ((steps[k]).file)) (H.cells 0 rfl) ?_
       rw[show ptrV ((steps[k]).file)=.P fp 0 from by rw[hq];rfl]
       refine uP 2 ?_
       refine uV 145 0 (H.cells 4 rfl) ?_
       refine uP 1 ?_
       refine uV 3 4 (H.cells 0 rfl) ?_
       refine uP 1 ?_
       refine uV 141 5 (H.cells 0 rfl) ?_
       refine RW.mapSet (d:=none) (r:=[]) (T:=145) (mk:=(Value.int .i64)) (vk:=secVal) (Kt:=3) (E:=141) (M':=((R,.cells (stepC (steps[k])).toArray 143 (0,0))::(db,.cells #[.bool true,.map (some sb),.map (some nb),.slice sa steps.length sk,.bool armed,.I left,.bool dead] 39 (0,0))::(nb,mapO Value.string ptrV L c)::(sb,mapO Value.string ptrV C.A.1 C.A.2)::(fp,.cells #[.map (some fS),.map (some fn),.I fz] 147 (0,0))::(fS,mapO (Value.int .i64) secVal (mset ((steps[k]).at_) ((steps[k]).data) fxc fX) (mclk ((steps[k]).at_) fxc fX))::(fn,mapO (Value.int .i64) secVal fY fyc)::(filesH (C.fs.eraseIdx fi)))) ((steps[k]).at_) ((steps[k]).data) (by as_aux_lemma=>kernel_rfl) H 5 rfl (KeyOk.int (by as_aux_lemma=>kernel_rfl)) (by as_aux_lemma=>kernel_rfl) rfl ?_
       intro J0 _ H
       refine uF 0 ?_
       refine qG (sq 0 3) ?_
       refine uP 1 ?_
       refine uI (((C.j:Nat):Int)+1) ?_
       refine uF 1 ?_
       refine uR 1 [.c [7,0,1,0,0,3],.l [7,0,1,0,0],.b 2,.c [8]] ?_
       refine qG (sq 0 2) ?_
       refine uI ((k:Int)+1) ?_
       refine uF 1 ?_
       obtain⟨o,n⟩:∃z:CrS,z=⟨C.A,C.i,C.j+1,updF C.fs fp (putS steps[k].at_ steps[k].data)⟩:=⟨_,rfl⟩
       have hCs:o=crAt (((xs[0].toNat:Nat):Int)%(((nmC steps:Nat):Int)+1)) (xs.drop 1) (A,lc) fs (steps.take (k+1)):=by rw[crAt_step M,←t.1,n];exact(crStep_yes a0 hq hbit).symm
       have G:psOf o.fs=psOf fs:=by rw[n];exact(updF_ps C.fs fp (putS steps[k].at_ steps[k].data) fun _=>rfl).trans t.2.2.2.2.1
       have J:FilesOk o.fs:=by rw[n];exact FilesOk.updF t.2.2.2.2.2 fun f hf=>hf.putS (hok.inn _ (List.getElem_mem M)).2.1 _
       have H:=H.perms (M':=((R,.cells (stepC (steps[k])).toArray 143 (0,0))::(db,.cells #[.bool true,.map (some sb),.map (some nb),.slice sa steps.length sk,.bool armed,.I left,.bool dead] 39 (0,0))::(nb,mapO Value.string ptrV L c)::(sb,mapO Value.string ptrV C.A.1 C.A.2)::(filesH (C.fs.set fi (putS steps[k].at_ steps[k].data ⟨fp,fS,fn,fX,fxc,fY,fyc,fz⟩))))) (W':=[⟨stepS,143,.slice sa steps.length sk,steps⟩]) (((filesH_put (putS steps[k].at_ steps[k].data ⟨fp,fS,fn,fX,fxc,fY,fyc,fz⟩) (List.getElem?_eq_some_iff.1 hfi).1).append_left ([(R,.cells (stepC (steps[k])).toArray 143 (0,0)),(db,.cells #[.bool true,.map (some sb),.map (some nb),.slice sa steps.length sk,.bool armed,.I left,.bool dead] 39 (0,0)),(nb,mapO Value.string ptrV L c),(sb,mapO Value.string ptrV C.A.1 C.A.2)]:Heap))) (List.Perm.refl _)
       rw[←updF_set (g:=putS steps[k].at_ steps[k].data) hnd hfi rfl]at H
       have H:Hp w S O (_::_::_::_::(filesH (updF C.fs fp (putS steps[k].at_ steps[k].data)))) [_] [_,_,_,_] _:=H
       have H:=H.dropM 0
       have H:Hp w S O ((db,.cells #[.bool true,.map (some sb),.map (some nb),.slice sa steps.length sk,.bool armed,.I left,.bool dead] 39 (0,0))::(nb,mapO Value.string ptrV L c)::(sb,mapO Value.string ptrV o.A.1 o.A.2)::(filesH o.fs)) [⟨stepS,143,.slice sa steps.length sk,steps⟩] [Fc l0 m0 [.int .u8 ((((xs.drop 1)[(C.j/8)]).toNat:Nat):Int)],Rp SB [.slice D (xs.drop 1).length (ca-1)] (xs.drop 1),Fc X Y [.int .u8 (((xs[0]).toNat:Nat):Int)],Rp SB [.slice a xs.length ca] xs] J0:=by rw[n];exact H
       rw[show(((C.i:Nat):Int):Int)=((o.i:Nat):Int)by simp[n],show(((C.j:Nat):Int)+1:Int)=((o.j:Nat):Int)by simp[n]]
       have U:o.i≤k+1:=by rw[n];simp only[];omega
       have V:o.j≤k+1:=by rw[n];simp only[];omega
       skip
       have H:=H.pick [1,2,3] rfl
       exact uB (F (k+1,o) _ ⟨H,hCs,by omega,U,V,G,J⟩ (by first|omega|(simp only[];omega)))
      ·
       have hbit:bitOf (xs.drop 1) C.j=false:=by
        unfold bitOf
        rw[List.getElem?_eq_getElem (show C.j/8<(xs.drop 1).length by omega)]
        exact decide_eq_false n0
       refine uR 1 [.c [7,0,1,0,0,2,0,0,3],.b 3,.c [7,0,1,0,0,3],.l [7,0,1,0,0],.b 2,.c [8]] ?_
       refine qG (sq 0 3) ?_
       refine uP 1 ?_
       refine uI (((C.j:Nat):Int)+1) ?_
       refine qF 1 [(0,.P db 0),(1,.slice D (xs.drop 1).length (ca-1)),(4,.I ((C.i:Nat):Int)),(7,.I ((((xs[0]).toNat:Nat):Int)%(((nmC steps:Nat):Int)+1))),(8,.I (((C.j:Nat):Int)+1)),(53,.slice sa steps.length sk),(54,.I ((steps.length:Nat):Int)),(55,.I k)] ?_
       refine uR 1 [.c [7,0,1,0,0,3],.l [7,0,1,0,0],.b 2,.c [8]] ?_
       refine qG (sq 0 2) ?_
       refine uI ((k:Int)+1) ?_
       refine uF 1 ?_
       obtain⟨o,n⟩:∃z:CrS,z=⟨C.A,C.i,C.j+1,C.fs⟩:=⟨_,rfl⟩
       have hCs:o=crAt (((xs[0].toNat:Nat):Int)%(((nmC steps:Nat):Int)+1)) (xs.drop 1) (A,lc) fs (steps.take (k+1)):=by rw[crAt_step M,←t.1,n];exact(crStep_no a0 hbit).symm
       have G:psOf o.fs=psOf fs:=by rw[n];exact t.2.2.2.2.1
       have J:FilesOk o.fs:=by rw[n];exact t.2.2.2.2.2
       have H:=H.dropM 0
       have H:Hp w S O ((db,.cells #[.bool true,.map (some sb),.map (some nb),.slice sa steps.length sk,.bool armed,.I left,.bool dead] 39 (0,0))::(nb,mapO Value.string ptrV L c)::(sb,mapO Value.string ptrV o.A.1 o.A.2)::(filesH o.fs)) [⟨stepS,143,.slice sa steps.length sk,steps⟩] [Fc l0 m0 [.int .u8 ((((xs.drop 1)[(C.j/8)]).toNat:Nat):Int)],Rp SB [.slice D (xs.drop 1).length (ca-1)] (xs.drop 1),Fc X Y [.int .u8 (((xs[0]).toNat:Nat):Int)],Rp SB [.slice a xs.length ca] xs] Z:=by rw[n];exact H
       rw[show(((C.i:Nat):Int):Int)=((o.i:Nat):Int)by simp[n],show(((C.j:Nat):Int)+1:Int)=((o.j:Nat):Int)by simp[n]]
       have U:o.i≤k+1:=by rw[n];simp only[];omega
       have V:o.j≤k+1:=by rw[n];simp only[];omega
       skip
       have H:=H.pick [1,2,3] rfl
       exact uB (F (k+1,o) _ ⟨H,hCs,by omega,U,V,G,J⟩ (by first|omega|(simp only[];omega)))
     ·
      have hbit:bitOf (xs.drop 1) C.j=false:=by unfold bitOf;rw[List.getElem?_eq_none (by omega)]
      refine uF 11 ?_
      refine uR 2 [.c [7,0,1,0,0,2,0,0,3],.b 3,.c [7,0,1,0,0,3],.l [7,0,1,0,0],.b 2,.c [8]] ?_
      refine qG (sq 0 3) ?_
      refine uP 1 ?_
      refine uI (((C.j:Nat):Int)+1) ?_
      refine uF 1 ?_
      refine uR 1 [.c [7,0,1,0,0,3],.l [7,0,1,0,0],.b 2,.c [8]] ?_
      refine qG (sq 0 2) ?_
      refine uI ((k:Int)+1) ?_
      refine qF 1 [(0,.P db 0),(1,.slice D (xs.drop 1).length (ca-1)),(4,.I ((C.i:Nat):Int)),(7,.I ((((xs[0]).toNat:Nat):Int)%(((nmC steps:Nat):Int)+1))),(8,.I (((C.j:Nat):Int)+1)),(53,.slice sa steps.length sk),(54,.I ((steps.length:Nat):Int)),(55,.I ((k:Int)+1))] ?_
      obtain⟨o,n⟩:∃z:CrS,z=⟨C.A,C.i,C.j+1,C.fs⟩:=⟨_,rfl⟩
      have hCs:o=crAt (((xs[0].toNat:Nat):Int)%(((nmC steps:Nat):Int)+1)) (xs.drop 1) (A,lc) fs (steps.take (k+1)):=by rw[crAt_step M,←t.1,n];exact(crStep_no a0 hbit).symm
      have G:psOf o.fs=psOf fs:=by rw[n];exact t.2.2.2.2.1
      have J:FilesOk o.fs:=by rw[n];exact t.2.2.2.2.2
      have H:=H.dropM 0
      have H:Hp w S O ((db,.cells #[.bool true,.map (some sb),.map (some nb),.slice sa steps.length sk,.bool armed,.I left,.bool dead] 39 (0,0))::(nb,mapO Value.string ptrV L c)::(sb,mapO Value.string ptrV o.A.1 o.A.2)::(filesH o.fs)) [⟨stepS,143,.slice sa steps.length sk,steps⟩] [Rp SB [.slice D (xs.drop 1).length (ca-1)] (xs.drop 1),Fc X Y [.int .u8 (((xs[0]).toNat:Nat):Int)],Rp SB [.slice a xs.length ca] xs] Z:=by rw[n];exact H
      rw[show(((C.i:Nat):Int):Int)=((o.i:Nat):Int)by simp[n],show(((C.j:Nat):Int)+1:Int)=((o.j:Nat):Int)by simp[n]]
      have U:o.i≤k+1:=by rw[n];simp only[];omega
      have V:o.j≤k+1:=by rw[n];simp only[];omega
      skip
      exact uB (F (k+1,o) _ ⟨H,hCs,by omega,U,V,G,J⟩ (by first|omega|(simp only[];omega)))
   ·
    refine uR 2 [.c [8,0],.c [9]] ?_
    refine qG (sq 0 12) ?_
    refine uP 5 ?_
    refine qW 37 db 3 (sq 6 12) (.slice none 0 0) ((db,.cells #[.bool true,.map (some sb),.map (some nb),.slice none 0 0,.bool armed,.I left,.bool dead] 39 (0,0))::(nb,mapO Value.string ptrV L c)::(sb,mapO Value.string ptrV C.A.1 C.A.2)::(filesH C.fs)) H 0 rfl rfl ?_
    intro _ H
    refine uP 2 ?_
    refine qW 4 db 6 (sq 9 12) (.bool false) ((db,.cells #[.bool true,.map (some sb),.map (some nb),.slice none 0 0,.bool armed,.I left,.bool false] 39 (0,0))::(nb,mapO Value.string ptrV L c)::(sb,mapO Value.string ptrV C.A.1 C.A.2)::(filesH C.fs)) H 0 rfl rfl ?_
    intro _ H
    refine uP 2 ?_
    refine qW 4 db 4 (sq 12 12) (.bool false) ((db,.cells #[.bool true,.map (some sb),.map (some nb),.slice none 0 0,.bool false,.I left,.bool false] 39 (0,0))::(nb,mapO Value.string ptrV L c)::(sb,mapO Value.string ptrV C.A.1 C.A.2)::(filesH C.fs)) H 0 rfl rfl ?_
    intro _ H
    refine qF 0 [(0,.P db 0)] ?_
    refine uR 1 [.c [9,0],.c [10]] ?_
    refine qG (sq 0 9) ?_
    refine uP 4 ?_
    refine uV 36 1 (H.cells 0 rfl) ?_
    have H:=H.frontM 2 rfl
    refine uKS (cloneN ((H.lend (M1:=[_]) (W1:=[])).pick [] rfl)) ?_
    rintro _ _⟨h,rfl,H'⟩
    have H:=H.back (M1:=[_]) (W1:=[]) H'
    have H:Hp w S O ((h,mapO Value.string ptrV C.A.1 C.A.2)::_::_::_::_) [_] [_,_,_] _:=H
    refine uP 2 ?_
    refine qW 36 db 2 (sq 9 9) (.map (some h)) ((h,mapO Value.string ptrV C.A.1 C.A.2)::(sb,mapO Value.string ptrV C.A.1 C.A.2)::(db,.cells #[.bool true,.map (some sb),.map (some h),.slice none 0 0,.bool false,.I left,.bool false] 39 (0,0))::(nb,mapO Value.string ptrV L c)::(filesH C.fs)) H 2 rfl rfl ?_
    intro _ H
    refine uF 0 ?_
    refine uR 1 [.c [10,0],.c [11]] ?_
    refine qG (sq 0 5) ?_
    refine uP 3 ?_
    refine uV 36 2 (H.cells 2 rfl) ?_
    refine RW.mapRange (κ:=.seq) (d:=some 123) (r:=(sq 5 5)) (T:=36) (mk:=Value.string) (vk:=ptrV) (Kt:=9) (E:=139) (by as_aux_lemma=>kernel_rfl) (nofun) H 0 rfl (by as_aux_lemma=>kernel_rfl) ?_
    intro x _ _ H
    refine uF 0 ?_
    refine uR 1 [.c [11,0],.b 4] ?_
    have K0:steps.take k=steps:=List.take_of_length_le (by omega)
    obtain⟨m,r0,_⟩:=crAt_A (((xs[0].toNat:Nat):Int)%(((nmC steps:Nat):Int)+1)) (xs.drop 1) (A,lc) fs steps
    have hCe:C=crAt (((xs[0].toNat:Nat):Int)%(((nmC steps:Nat):Int)+1)) (xs.drop 1) (A,lc) fs steps:=by rw[t.1,K0]
    have hMA:MOk C.A.1 C.A.2:=by rw[hCe,r0];exact foldN_ok hok.map _
    have hgood:∀e∈C.A.1,∃p,e.2.1=some p∧p∈psOf fs:=by rw[hCe,r0];exact hok.good m
    have hps:=t.2.2.2.2.1
    have hfoA:=t.2.2.2.2.2
    have H:=H.pick [] rfl
    have H:=H.frontM 2 rfl
    have H:=H.frontM 2 rfl
    have H:=H.frontM 3 rfl
    have H:=H.frontM 3 rfl
    have H:=H.frontM 4 rfl
    have H:=H.dropM 0
    have H:=H.dropW 0
    rw[←crF_nil C.fs (fun _=>0)]at H
    have H:Hp w S O (_::_::_::_::(filesH (crF C.fs ([]:NameL) (fun _=>0)))) [] [] _:=H
    have H:=H.drop (M':=((x,iterO h C.A.2 ([]:NameL) C.A.2)::(db,.cells #[.bool true,.map (some sb),.map (some h),.slice none 0 0,.bool false,.I left,.bool false] 39 (0,0))::(h,mapO Value.string ptrV C.A.1 C.A.2)::(sb,mapO Value.string ptrV C.A.1 C.A.2)::(filesH (crF C.fs ([]:NameL) (fun _=>0))))) (W':=[]) (by repeat(first|exact List.Sublist.refl _|exact List.nil_sublist _|apply List.Sublist.cons_cons|apply List.Sublist.cons)) (by repeat(first|exact List.Sublist.refl _|exact List.nil_sublist _|apply List.Sublist.cons_cons|apply List.Sublist.cons))
    refine uL (α:=NameL×NameL×(Nat→Nat)) (g:=25) (p:=[11,0,0]) (fun(dn,lf,ns)=>[(123,.P x 0)]) (fun(dn,lf,ns)w'=>Hp w S O ((x,iterO h C.A.2 dn C.A.2)::(db,.cells #[.bool true,.map (some sb),.map (some h),.slice none 0 0,.bool false,.I left,.bool false] 39 (0,0))::(h,mapO Value.string ptrV C.A.1 C.A.2)::(sb,mapO Value.string ptrV C.A.1 C.A.2)::(filesH (crF C.fs dn ns))) [] [] w'∧(dn++lf).Perm C.A.1) (fun(dn,lf,ns)=>lf.length) (([]:NameL),C.A.1,(fun _=>0)) ⟨H,by simp⟩ ?_
    rintro⟨dn,lf,ns⟩_⟨H,N⟩e0
    refine uR 1 [.c [11,0,0,0],.c [11,0,0,1],.l [11,0,0],.b 4] ?_
    refine qG (sq 0 2) ?_
    refine RW.mapNext (d:=some 124) (r:=(sq 1 2)) (ty:=0) (mk:=Value.string) (vk:=ptrV) (lf:=lf) (by as_aux_lemma=>kernel_rfl) H 2 rfl 0 rfl N hMA.borns hMA.old (Nat.le_refl _) (fun z0=>?_) (fun B A0 o0=>?_)
    ·
     subst z0
     rw[List.append_nil]at N
     refine uF 1 ?_
     refine uR 3 [] ?_
     refine WK.fin (v:=.tuple #[]) Tryz.func25 (by as_aux_lemma=>kernel_rfl) ?_
     have hfin:=crF_perm C.fs N ns
     rw[hfin]at H
     have H:=H.dropM 0
     exact⟨_,rfl,rfl,C,ns,h,hCe,H.ownNil stepS 143⟩
    ·
     intro _ H
     have H:Hp w S O ((x,iterO h C.A.2 (dn++[B]) C.A.2)::_::_::_::_) [] [] _:=H
     refine uF 1 ?_
     refine uR 5 [.c [11,0,0,2,0,0],.c [11,0,0,2,0,1],.b 5,.l [11,0,0],.b 4] ?_
     refine qG (sq 0 3) ?_
     refine RW.mapEntry (κ:=.seq) (d:=some 126) (r:=(sq 1 3)) (mk:=Value.string) (vk:=ptrV) (e:=B) (dn:=dn) (by as_aux_lemma=>kernel_rfl) H 2 rfl 0 rfl ((N.mem_iff).1 (List.mem_append_right _ (o0.mem_iff.2 (List.mem_cons_self ..)))) hMA.borns ?_
     obtain⟨p,hep,hpm⟩:=hgood _ ((N.mem_iff).1 (List.mem_append_right _ (o0.mem_iff.2 (List.mem_cons_self ..))))
     rw[show ptrV B.2.1=.P p 0 from by rw[hep];rfl]
     have hnd:=ps_nodup2 (fs:=crF C.fs dn ns) H [(x,iterO h C.A.2 (dn++[B]) C.A.2),(db,.cells #[.bool true,.map (some sb),.map (some h),.slice none 0 0,.bool false,.I left,.bool false] 39 (0,0)),(h,mapO Value.string ptrV C.A.1 C.A.2),(sb,mapO Value.string ptrV C.A.1 C.A.2)] rfl
     obtain⟨fi,ff,hfi,hfp⟩:=ps_at (fs:=crF C.fs dn ns) (by rw[crF_ps,hps];exact hpm)
     have hfo:=hfoA.crF dn ns ff (List.mem_of_getElem? hfi)
     obtain⟨fp,fS,fn,fX,fxc,fY,fyc,fz⟩:=ff
     simp only at hfp
     subst hfp
     obtain⟨hXk,-,hXb,-,-⟩:=hfo
     simp only at hXk hXb
     have H:=H.perms (M':=((x,iterO h C.A.2 (dn++[B]) C.A.2)::(db,.cells #[.bool true,.map (some sb),.map (some h),.slice none 0 0,.bool false,.I left,.bool false] 39 (0,0))::(h,mapO Value.string ptrV C.A.1 C.A.2)::(sb,mapO Value.string ptrV C.A.1 C.A.2)::(fp,.cells #[.map (some fS),.map (some fn),.I fz] 147 (0,0))::(fS,mapO (Value.int .i64) secVal fX fxc)::(fn,mapO (Value.int .i64) secVal fY fyc)::(filesH ((crF C.fs dn ns).eraseIdx fi)))) (W':=[]) (((filesH_pick hfi).symm.append_left ([(x,iterO h C.A.2 (dn++[B]) C.A.2),(db,.cells #[.bool true,.map (some sb),.map (some h),.slice none 0 0,.bool false,.I left,.bool false] 39 (0,0)),(h,mapO Value.string ptrV C.A.1 C.A.2),(sb,mapO Value.string ptrV C.A.1 C.A.2)]:Heap))) (List.Perm.refl _)
     have H:Hp w S O (_::_::_::_::_::_::_::_) [] [] _:=H
     refine uF 2 ?_
     refine uR 1 [.c [11,0,0,2,0,1,0],.c [11,0,0,2,0,2],.b 5,.l [11,0,0],.b 4] ?_
     refine qG (sq 0 9) ?_
     refine uP 4 ?_
     refine uV 145 0 (H.cells 4 rfl) ?_
     have H:=H.frontM 5 rfl
     refine uKS (cloneX ((H.lend (M1:=[_]) (W1:=[])).pick [] rfl)) ?_
     rintro _ _⟨u,rfl,H'⟩
     have H:=H.back (M1:=[_]) (W1:=[]) H'
     have H:Hp w S O ((u,mapO (Value.int .i64) secVal fX fxc)::_::_::_::_::_::_::_::_) [] [] _:=H
     refine uP 2 ?_
     refine qW 145 fp 1 (sq 9 9) (.map (some u)) ((u,mapO (Value.int .i64) secVal fX fxc)::(fS,mapO (Value.int .i64) secVal fX fxc)::(x,iterO h C.A.2 (dn++[B]) C.A.2)::(db,.cells #[.bool true,.map (some sb),.map (some h),.slice none 0 0,.bool false,.I left,.bool false] 39 (0,0))::(h,mapO Value.string ptrV C.A.1 C.A.2)::(sb,mapO Value.string ptrV C.A.1 C.A.2)::(fp,.cells #[.map (some fS),.map (some u),.I fz] 147 (0,0))::(fn,mapO (Value.int .i64) secVal fY fyc)::(filesH ((crF C.fs dn ns).eraseIdx fi))) H 6 rfl rfl ?_
     intro _ H
     refine uF 0 ?_
     refine qR 1 [.c [11,0,0,2,0,2,0],.c [11,0,0,2,0,3],.b 5,.l [11,0,0],.b 4] [(12,.P fp 0),(123,.P x 0)] ?_
     refine qG (sq 0 4) ?_
     refine uP 3 ?_
     refine qW 3 fp 2 (sq 4 4) (.I 0) ((u,mapO (Value.int .i64) secVal fX fxc)::(fS,mapO (Value.int .i64) secVal fX fxc)::(x,iterO h C.A.2 (dn++[B]) C.A.2)::(db,.cells #[.bool true,.map (some sb),.map (some h),.slice none 0 0,.bool false,.I left,.bool false] 39 (0,0))::(h,mapO Value.string ptrV C.A.1 C.A.2)::(sb,mapO Value.string ptrV C.A.1 C.A.2)::(fp,.cells #[.map (some fS),.map (some u),.I 0] 147 (0,0))::(fn,mapO (Value.int .i64) secVal fY fyc)::(filesH ((crF C.fs dn ns).eraseIdx fi))) H 6 rfl rfl ?_
     intro _ H
     refine uF 0 ?_
     refine uR 1 [.c [11,0,0,2,0,3,0],.c [11,0,0,2,0,4],.b 5,.l [11,0,0],.b 4] ?_
     refine qG (sq 0 5) ?_
     refine uP 3 ?_
     refine uV 145 1 (H.cells 6 rfl) ?_
     refine RW.mapRange (κ:=.seq) (d:=some 143) (r:=(sq 5 5)) (T:=145) (mk:=(Value.int .i64)) (vk:=secVal) (Kt:=3) (E:=141) (by as_aux_lemma=>kernel_rfl) (nofun) H 0 rfl (by as_aux_lemma=>kernel_rfl) ?_
     intro W _ _ H
     refine uF 0 ?_
     refine uR 1 [.c [11,0,0,2,0,4,0],.b 6,.b 5,.l [11,0,0],.b 4] ?_
     have Q0:(0:Int)=sizeX ([]:SecM):=rfl
     have H:Hp w S O ((W,iterO u fxc ([]:List (Int×Sec×Nat)) fxc)::_::_::_::_::_::_::(fp,.cells #[.map (some fS),.map (some u),.I (sizeX ([]:SecM))] 147 (0,0))::_::_) [] [] _:=H
     have H:=H.drop (M':=((W,iterO u fxc ([]:SecM) fxc)::(u,mapO (Value.int .i64) secVal fX fxc)::(fS,mapO (Value.int .i64) secVal fX fxc)::(x,iterO h C.A.2 (dn++[B]) C.A.2)::(db,.cells #[.bool true,.map (some sb),.map (some h),.slice none 0 0,.bool false,.I left,.bool false] 39 (0,0))::(h,mapO Value.string ptrV C.A.1 C.A.2)::(sb,mapO Value.string ptrV C.A.1 C.A.2)::(fp,.cells #[.map (some fS),.map (some u),.I (sizeX ([]:SecM))] 147 (0,0))::(fn,mapO (Value.int .i64) secVal fY fyc)::(filesH ((crF C.fs dn ns).eraseIdx fi)))) (W':=[]) (by repeat(first|exact List.Sublist.refl _|exact List.nil_sublist _|apply List.Sublist.cons_cons|apply List.Sublist.cons)) (by repeat(first|exact List.Sublist.refl _|exact List.nil_sublist _|apply List.Sublist.cons_cons|apply List.Sublist.cons))
     refine uL (α:=SecM×SecM) (g:=25) (p:=[11,0,0,2,0,4,0,0]) (fun(y,b0)=>[(12,.P fp 0),(123,.P x 0),(143,.P W 0)]) (fun(y,b0)w'=>Hp w S O ((W,iterO u fxc y fxc)::(u,mapO (Value.int .i64) secVal fX fxc)::(fS,mapO (Value.int .i64) secVal fX fxc)::(x,iterO h C.A.2 (dn++[B]) C.A.2)::(db,.cells #[.bool true,.map (some sb),.map (some h),.slice none 0 0,.bool false,.I left,.bool false] 39 (0,0))::(h,mapO Value.string ptrV C.A.1 C.A.2)::(sb,mapO Value.string ptrV C.A.1 C.A.2)::(fp,.cells #[.map (some fS),.map (some u),.I (sizeX y)] 147 (0,0))::(fn,mapO (Value.int .i64) secVal fY fyc)::(filesH ((crF C.fs dn ns).eraseIdx fi))) [] [] w'∧(y++b0).Perm fX) (fun(y,b0)=>b0.length) (([]:SecM),fX) ⟨H,by simp⟩ ?_
     rintro⟨y,b0⟩_⟨H,Q⟩f0
     refine uR 1 [.c [11,0,0,2,0,4,0,0,0],.c [11,0,0,2,0,4,0,0,1],.l [11,0,0,2,0,4,0,0],.b 6,.b 5,.l [11,0,0],.b 4] ?_
     refine qG (sq 0 2) ?_
     refine RW.mapNext (d:=some 144) (r:=(sq 1 2)) (ty:=0) (mk:=(Value.int .i64)) (vk:=secVal) (lf:=b0) (by as_aux_lemma=>kernel_rfl) H 1 rfl 0 rfl Q hXk.borns hXk.old (Nat.le_refl _) (fun B0=>?_) (fun K lf74 p0=>?_)
     ·
      subst B0
      rw[List.append_nil]at Q
      have L0:=sizeX_perm Q
      rw[L0]at H
      refine uF 1 ?_
      refine uR 4 [.l [11,0,0],.b 4] ?_
      have H:=H.frontM 1 rfl
      have H:=H.frontM 2 rfl
      have H:=H.frontM 7 rfl
      have H:=H.frontM 7 rfl
      have H:=H.frontM 7 rfl
      have H:=H.frontM 7 rfl
      have H:=H.frontM 7 rfl
      have H:=H.frontM 8 rfl
      have H:=H.frontM 8 rfl
      have H:=H.dropM 1
      have H:=H.dropM 0
      have H:=H.perms (M':=((x,iterO h C.A.2 (dn++[B]) C.A.2)::(db,.cells #[.bool true,.map (some sb),.map (some h),.slice none 0 0,.bool false,.I left,.bool false] 39 (0,0))::(h,mapO Value.string ptrV C.A.1 C.A.2)::(sb,mapO Value.string ptrV C.A.1 C.A.2)::(filesH ((crF C.fs dn ns).set fi (visit u ⟨fp,fS,fn,fX,fxc,fY,fyc,fz⟩))))) (W':=[]) (((filesH_put (visit u ⟨fp,fS,fn,fX,fxc,fY,fyc,fz⟩) (List.getElem?_eq_some_iff.1 hfi).1).append_left ([(x,iterO h C.A.2 (dn++[B]) C.A.2),(db,.cells #[.bool true,.map (some sb),.map (some h),.slice none 0 0,.bool false,.I left,.bool false] 39 (0,0)),(h,mapO Value.string ptrV C.A.1 C.A.2),(sb,mapO Value.string ptrV C.A.1 C.A.2)]:Heap))) (List.Perm.refl _)
      rw[←updF_set (g:=visit u) hnd hfi rfl,crF_step C.fs dn ns fp u B hep]at H
      have H:Hp w S O (_::_::_::_::(filesH (crF C.fs (dn++[B]) (fun q_=>if q_=fp then u else ns q_)))) [] [] _:=H
      skip
      exact uB (e0 (dn++[B],A0,(fun q_=>if q_=fp then u else ns q_)) _ ⟨H,by rw[List.append_assoc];exact((List.Perm.append_left dn (by assumption)).symm.trans N)⟩ (by have:=List.Perm.length_eq (by assumption:lf.Perm _);simp only[List.length_cons]at this;simp only[];omega))
     ·
      intro _ H
      have H:Hp w S O ((W,iterO u fxc (y++[K]) fxc)::_::_::_::_::_::_::_::_::_) [] [] _:=H
      have hxb:=hXb _ ((Q.mem_iff).1 (List.mem_append_right _ (p0.mem_iff.2 (List.mem_cons_self ..))))
      refine uF 1 ?_
      refine uR 5 [.c [11,0,0,2,0,4,0,0,2,0,0],.c [11,0,0,2,0,4,0,0,2,0,1],.b 7,.l [11,0,0,2,0,4,0,0],.b 6,.b 5,.l [11,0,0],.b 4] ?_
      refine qG (sq 0 3) ?_
      refine RW.mapEntry (κ:=.seq) (d:=some 146) (r:=(sq 1 3)) (mk:=(Value.int .i64)) (vk:=secVal) (e:=K) (dn:=y) (by as_aux_lemma=>kernel_rfl) H 1 rfl 0 rfl ((Q.mem_iff).1 (List.mem_append_right _ (p0.mem_iff.2 (List.mem_cons_self ..)))) hXk.borns ?_
      refine uF 2 ?_
      refine qG (sq 0 11) ?_
      refine uP 4 ?_
      refine uV 3 2 (H.cells 7 rfl) ?_
      refine uP 1 ?_
      refine uI (K.1+1) ?_
      refine uP 3 ?_
      refine qW 3 fp 2 (sq 11 11) (.I (if K.1+1>(sizeX y)then K.1+1 else(sizeX y))) ((W,iterO u fxc (y++[K]) fxc)::(u,mapO (Value.int .i64) secVal fX fxc)::(fS,mapO (Value.int .i64) secVal fX fxc)::(x,iterO h C.A.2 (dn++[B]) C.A.2)::(db,.cells #[.bool true,.map (some sb),.map (some h),.slice none 0 0,.bool false,.I left,.bool false] 39 (0,0))::(h,mapO Value.string ptrV C.A.1 C.A.2)::(sb,mapO Value.string ptrV C.A.1 C.A.2)::(fp,.cells #[.map (some fS),.map (some u),.I (if K.1+1>(sizeX y)then K.1+1 else(sizeX y))] 147 (0,0))::(fn,mapO (Value.int .i64) secVal fY fyc)::(filesH ((crF C.fs dn ns).eraseIdx fi))) H 7 rfl rfl ?_
      intro M0 H
      refine uF 0 ?_
      refine qR 1 [.l [11,0,0,2,0,4,0,0],.b 6,.b 5,.l [11,0,0],.b 4] [(12,.P fp 0),(123,.P x 0),(143,.P W 0)] ?_
      have hz:=sizeX_snoc y K
      have H:Hp w S O ((W,iterO u fxc (y++[K]) fxc)::(u,mapO (Value.int .i64) secVal fX fxc)::(fS,mapO (Value.int .i64) secVal fX fxc)::(x,iterO h C.A.2 (dn++[B]) C.A.2)::(db,.cells #[.bool true,.map (some sb),.map (some h),.slice none 0 0,.bool false,.I left,.bool false] 39 (0,0))::(h,mapO Value.string ptrV C.A.1 C.A.2)::(sb,mapO Value.string ptrV C.A.1 C.A.2)::(fp,.cells #[.map (some fS),.map (some u),.I (sizeX (y++[K]))] 147 (0,0))::(fn,mapO (Value.int .i64) secVal fY fyc)::(filesH ((crF C.fs dn ns).eraseIdx fi))) [] [] M0:=by rw[hz];exact H
      skip
      exact uB (f0 (y++[K],lf74) _ ⟨H,by rw[List.append_assoc];exact((List.Perm.append_left y (by assumption)).symm.trans Q)⟩ (by have:=List.Perm.length_eq (by assumption:b0.Perm _);simp only[List.length_cons]at this;simp only[];omega))
  ·
   omega
end Go.Proofs.YtdnibpclkhenmaaGreatDoor
