import Derived.Test.YtdnibpclkhenmaaGreatDoorSBxA
import Derived.Test.YtdnibpclkhenmaaGreatDoorSJQ
namespace Go.Proofs.YtdnibpclkhenmaaGreatDoor
open Go.BX
def armD(D:DiskD)(n:Int):DiskD:={D with armed:=decide (n≥0),left:=n}
section
variable{S:Nat→Prop}{w:World}{O:List Nat}{db:Nat}{D:DiskD}{sa:Option Addr}{sk:Nat}
theorem dArm(n:Int)(hd:D.dead=false)(H0:Hp w S O (diskM db D sa sk) [diskW D sa sk] [] w):
 Calls Tryz.prog 69 #[.P db 0,.I n] w (Ret fun v w'=>v=.tuple #[]∧Hp w S O (diskM db (armD D n) sa sk) [diskW (armD D n) sa sk] [] w'):=by
 obtain⟨sb,nb,A,lc,L,c,fs,steps,armed,left,dead⟩:=D
 obtain rfl:dead=false:=hd
 refine(arm_spec n ((H0.lend (M1:=[_]) (W1:=[])).pick [] rfl)).mono fun e w' hh=>?_
 obtain⟨v,he,hv,H'⟩:=hh
 exact⟨v,he,hv,(H0.back (M1:=[_]) (W1:=[]) H').pick [] rfl⟩
end
theorem FilA.arm{D:DiskD}{q:Nat}{A:SP}{n:Int}(h:FilA D q A):FilA (armD D n) q A:=⟨h.safe,h.wr⟩
theorem LJ.arm{D:DiskD}{nm:ByteArray}{V:VV}{c:Option Sg}{g:Nat}{n:Int}(h:LJ D nm V c g):LJ (armD D n) nm V c g:=
 ⟨⟨h.lv.names,h.lv.nowN,h.lv.wf,h.lv.ex,h.lv.fv.step (fun _ _ _ h=>h.arm) (fun _ _ h=>h.arm),h.lv.top,fun c hc=>by
  obtain⟨h1,h2,h3⟩:=h.lv.cur c hc
  exact⟨h1,h2.arm,h3⟩⟩,h.own,h.now⟩
theorem JW.arm{D:DiskD}{nm seg:ByteArray}{B:Bs}{R0 R:List Bs}{g:Nat}{σ:Bs}{sy:Bool}{n m t q c:Nat}{k:Int}(h:JW D nm B R0 R g seg σ sy n m t q c)(hk:0≤k∧k≤9223372036854775807):JW (armD D k) nm B R0 R g seg σ sy n m t q c:=by
 refine⟨h.pl,⟨⟨h.di.ok.mnow,h.di.ok.cr,h.di.ok.same,h.di.ok.nd⟩,h.di.form,h.di.inj,h.di.ns,h.di.sz⟩,⟨h.al.dead,fun _=>hk,h.al.st⟩,?_,h.cap,h.gm,h.sl,h.rl,h.rb,h.bl⟩
 obtain⟨V,cur,a,b⟩:=h.jl
 exact⟨V,cur,a.arm,b⟩
abbrev PBk(B t:Bs)(R0 L:List Bs)(torn:Bool):Bs→List Bs→List Bs→Prop:=fun B' lo hi=>(torn=true∧B'=t∧hi=[])∨(B'=B∧R0<+:lo∧hi<+:R0++L)
abbrev QBk(B t:Bs)(R0 L:List Bs)(torn:Bool):Bs→List Bs→Prop:=fun B' R'=>∃lo hi,PBk B t R0 L torn B' lo hi∧lo<+:R'∧R'<+:hi
theorem QBk.may{B t B':Bs}{R0 L R':List Bs}{torn:Bool}(h:QBk B t R0 L torn B' R'):mayP B t R0 L torn B' R':=by
 obtain⟨lo,hi,⟨a,b,c⟩|⟨a,b,c⟩,e,d⟩:=h
 · subst c
   exact .inl ⟨a, List.prefix_nil.1 d,b⟩
 ·exact .inr ⟨a,b.trans e,d.trans c⟩
structure BdS(B t:Bs)(R0 R L:List Bs)(m:Nat):Prop where
 bl:B.length≤4194304
 tl:t.length≤4194304
 ll:R0.length+L.length≤m
 lb:∀r∈R0++L,r.length≤4194304
 rl:R.length≤m
 rb:∀r∈R,r.length≤4194304
theorem BdS.mono{B t:Bs}{R0 R L:List Bs}{m m':Nat}(h:BdS B t R0 R L m)(hm:m≤m'):BdS B t R0 R L m':=⟨h.bl,h.tl,Nat.le_trans h.ll hm,h.lb,Nat.le_trans h.rl hm,h.rb⟩
theorem QBk.bd{B t B':Bs}{R0 R L R':List Bs}{torn:Bool}{m:Nat}(hb:BdS B t R0 R L m)(h:QBk B t R0 L torn B' R'):B'.length≤4194304∧R'.length≤m+1∧∀r∈R',r.length≤4194304:=by
 obtain⟨lo,hi,⟨b,c,a⟩|⟨b,c,a⟩, _, d⟩:= h
 · subst a;subst c
   rw[List.prefix_nil.1 d]
   exact⟨hb.tl,Nat.zero_le _,nofun⟩
 · subst b
   have hp := d.trans a
   have :=hp.length_le
   rw[List.length_append]at this
   exact⟨hb.bl,by have:=hb.ll;omega,fun r hr=>hb.lb r (hp.subset hr)⟩
structure KS(D:DiskD)(m:Nat)(B t:Bs)(R0 R L:List Bs)(torn:Bool):Prop where
 di:DI D
 st:D.steps.length≤1000000000
 js:JS D ⟨#[106]⟩ m (PBk B t R0 L torn)
 cap:Cap D m
 bd:BdS B t R0 R L m
theorem KS.mono{D:DiskD}{m m':Nat}{B t:Bs}{R0 R L:List Bs}{torn:Bool}(h:KS D m B t R0 R L torn)(hm:m≤m'):KS D m' B t R0 R L torn:=⟨h.di,h.st,h.js.mono hm fun _ _ _ h=>h,h.cap.mono hm,h.bd.mono hm⟩
theorem KS.cw{D:DiskD}{m:Nat}{B t:Bs}{R0 R L:List Bs}{torn:Bool}(h:KS D m B t R0 R L torn)(xs:List (BitVec 8))(ns:Nat→Nat)(nb:Nat):CW (crashD D xs ns nb) ⟨#[106]⟩ m m (PBk B t R0 L torn):=CW.of h.di h.js h.cap xs ns nb
theorem JW.bd{D:DiskD}{nm seg:ByteArray}{B t:Bs}{R0 R L:List Bs}{g:Nat}{σ:Bs}{sy:Bool}{n m tt q c:Nat}(h:JW D nm B R0 R g seg σ sy n m tt q c)(hRL:R=R0++L)(ht:t.length≤4194304):BdS B t R0 R L m:=
 ⟨h.bl,ht,by have h1:=h.rl;rw[hRL,List.length_append]at h1;exact h1,by rw[←hRL];exact h.rb,h.rl,h.rb⟩
theorem JW.ks{D:DiskD}{seg:ByteArray}{B t:Bs}{R0 R L:List Bs}{g:Nat}{σ:Bs}{sy torn:Bool}{n m tt q c:Nat}(h:JW D ⟨#[106]⟩ B R0 R g seg σ sy n m tt q c)(hc:c≤m)(hRL:R=R0++L)(ht:t.length≤4194304):KS D m B t R0 R L torn:=
 ⟨h.di,h.al.hst,h.jl.js.mono h.gm fun B' lo hi hh=>.inr ⟨hh.1,hh.2.1,hRL▸hh.2.2⟩,h.cap.mono hc,h.bd hRL ht⟩
structure KD(D:DiskD)(m:Nat)(B t:Bs)(R0 R L:List Bs)(torn:Bool):Prop where
 ks:KS D m B t R0 R L torn
 dead:D.dead=true
theorem KD.mono{D:DiskD}{m m':Nat}{B t:Bs}{R0 R L:List Bs}{torn:Bool}(h:KD D m B t R0 R L torn)(hm:m≤m'):KD D m' B t R0 R L torn:=⟨h.ks.mono hm,h.dead⟩
theorem DW.kd{D:DiskD}{m c:Nat}{P:Bs→List Bs→List Bs→Prop}{B t:Bs}{R0 R L:List Bs}{torn:Bool}(h:DW D ⟨#[106]⟩ m c P)(hc:c≤m)(hP:∀B' lo hi,P B' lo hi→PBk B t R0 L torn B' lo hi)(hb:BdS B t R0 R L m):KD D m B t R0 R L torn:=
 ⟨⟨h.di,h.st,h.js.mono (Nat.le_refl _) hP,h.cap.mono hc,hb⟩,h.dead⟩
theorem BdS.app{B t x:Bs}{R0 R L:List Bs}{m:Nat}(h:BdS B t R0 R L m)(hx:x.length≤4194304):BdS B t R0 R (L++[x]) (m+1):=by
 refine⟨h.bl,h.tl,?_,fun r hr=>?_,Nat.le_succ_of_le h.rl,h.rb⟩
 ·rw[List.length_append,List.length_singleton];have:=h.ll; omega
 · rw[← List.append_assoc]at hr
   rcases List.mem_append.1 hr with hr|hr
   ·exact h.lb r hr
   ·rw[List.mem_singleton.1 hr];exact hx
theorem BdS.torn{B t x:Bs}{R0 R L:List Bs}{m:Nat}(h:BdS B t R0 R L m)(hx:x.length≤4194304):BdS B x R0 R L m:=⟨h.bl,hx,h.ll,h.lb,h.rl,h.rb⟩
theorem kp_app{B t x:Bs}{R0 R L:List Bs}(hRL:R=R0++L){B':Bs}{lo hi:List Bs}(h:B'=B∧R0<+:lo∧hi<+:R++[x]):PBk B t R0 (L++[x]) false B' lo hi:=.inr ⟨h.1,h.2.1,by rw[←List.append_assoc,←hRL];exact h.2.2⟩
theorem kp_syn{B t:Bs}{R0 R L:List Bs}{torn:Bool}(hRL:R=R0++L){B':Bs}{lo hi:List Bs}(h:B'=B∧R0<+:lo∧hi<+:R):PBk B t R0 L torn B' lo hi:=.inr ⟨h.1,h.2.1,hRL▸h.2.2⟩
theorem kp_chk{B x:Bs}{R0 R L:List Bs}(hRL:R=R0++L){B':Bs}{lo hi:List Bs}(h:(B'=B∧R0<+:lo∧hi<+:R)∨(B'=x∧hi=[])):PBk B x R0 L true B' lo hi:=h.elim (fun h=>kp_syn hRL h) fun h=>.inl ⟨rfl,h.1,h.2⟩
theorem kp_opn{B t:Bs}{R0 R L:List Bs}{torn:Bool}(hRL:R=R0++L){B':Bs}{lo hi:List Bs}(h:(B'=B∧R0<+:lo∧hi<+:R)∨∃R',(B'=B∧R'=R)∧R'<+:lo∧hi<+:R'):PBk B t R0 L torn B' lo hi:=by
 rcases h with h|⟨R',⟨a,rfl⟩,b,c⟩
 ·exact kp_syn hRL h
 ·exact .inr ⟨a,(hRL▸List.prefix_append _ _:R0<+:R').trans b,hRL▸c⟩
theorem jappend_dead{S:Nat→Prop}{w:World}{O:List Nat}{jb db:Nat}{nm:ByteArray}{x2 x4 x5 x6 x7:Value}{D0:DiskD}{sa0:Option Addr}{sk0:Nat}{R:List (List (BitVec 8))}{ar ax:Option Addr}{cr cx:Nat}{r:List (BitVec 8)}(hdd:D0.dead=true)(hr:r.length≤4194304)(hRl:R.length≤65536)(H0:Hp w S O ((jb,.cells #[.P db 0,.string nm,x2,.slice ar R.length cr,x4,x5,x6,x7] 41 (0,0))::diskM db D0 sa0 sk0) [⟨stepS,143,.slice sa0 D0.steps.length sk0,D0.steps⟩] [] w):
 Calls Tryz.prog 16 #[.P jb 0,.slice ax r.length cx] w (Ret fun v w'=>v=.I 70∧Hp w S O ((jb,.cells #[.P db 0,.string nm,x2,.slice ar R.length cr,x4,x5,x6,x7] 41 (0,0))::diskM db D0 sa0 sk0) [⟨stepS,143,.slice sa0 D0.steps.length sk0,D0.steps⟩] [] w'):=by
 refine uS1 Tryz.func16 ?_
 have H:=H0
 refine uR 4 [.c [1,0,0],.c [1,0,1],.c [2]] ?_
 refine qG (sq 0 3) ?_
 refine uP 1 ?_
 have H:=H.gat 1 0
 refine uKS (state_dead hdd ((H.lend (M1:=(_::(diskM _ _ _ _))) (W1:=[_])).pick [] rfl)) ?_
 rintro _ _⟨rfl,H'⟩
 have H:=H.back (M1:=(_::(diskM _ _ _ _))) (W1:=[_]) H'
 have H:=H.ung 1
 have H:Hp w S O (_::(diskM db D0 sa0 sk0)) [_] [] _:=H
 refine uF 1 ?_
 refine uR 6 [.c [2,0,0],.c [2,0,1],.c [3]] ?_
 refine qG (sq 0 11) ?_
 refine uP 4 ?_
 refine uD 20 ((((r.length:Nat):Int):Int)>4194304) (fun a=>?_) (fun a=>?_)
 ·
  omega
 ·
  refine uP 3 ?_
  refine uV 22 3 (H.cells 0 rfl) ?_
  refine uF 3 ?_
  refine qD ((((R.length:Nat):Int):Int)>65536) (fun b=>?_) (fun b=>?_)
  ·
   omega
  ·
   refine uR 3 [.c [3,0,0],.c [3,0,1],.c [4]] ?_
   refine qG (sq 0 3) ?_
   refine uP 1 ?_
   have H:=H.gat 1 0
   refine uKS (state_dead hdd ((H.lend (M1:=(_::(diskM _ _ _ _))) (W1:=[_])).pick [] rfl)) ?_
   rintro _ _⟨rfl,H'⟩
   have H:=H.back (M1:=(_::(diskM _ _ _ _))) (W1:=[_]) H'
   have H:=H.ung 1
   have H:Hp w S O (_::_) [_] [] _:=H
   refine uF 1 ?_
   refine qR 5 [.c [3,0,2,0,1],.c [4]] [(4,.I 70)] ?_
   refine qT (.I 70) Tryz.func16 ?_
   exact⟨_,rfl,rfl,H⟩
theorem jsync_dead{S:Nat→Prop}{w:World}{O:List Nat}{jb db:Nat}{nm:ByteArray}{x2 x4 x5 x6 x7:Value}{D0:DiskD}{sa0:Option Addr}{sk0:Nat}{R:List (List (BitVec 8))}{ar:Option Addr}{cr:Nat}(hdd:D0.dead=true)(H0:Hp w S O ((jb,.cells #[.P db 0,.string nm,x2,.slice ar R.length cr,x4,x5,x6,x7] 41 (0,0))::diskM db D0 sa0 sk0) [⟨stepS,143,.slice sa0 D0.steps.length sk0,D0.steps⟩] [] w):
 Calls Tryz.prog 20 #[.P jb 0] w (Ret fun v w'=>v=.I 70∧Hp w S O ((jb,.cells #[.P db 0,.string nm,x2,.slice ar R.length cr,x4,x5,x6,x7] 41 (0,0))::diskM db D0 sa0 sk0) [⟨stepS,143,.slice sa0 D0.steps.length sk0,D0.steps⟩] [] w'):=by
 refine uS1 Tryz.func20 ?_
 have H:=H0
 refine uR 4 [.c [1,0,0],.c [1,0,1],.c [2]] ?_
 refine qG (sq 0 3) ?_
 refine uP 1 ?_
 have H:=H.gat 1 0
 refine uKS (state_dead hdd ((H.lend (M1:=(_::(diskM _ _ _ _))) (W1:=[_])).pick [] rfl)) ?_
 rintro _ _⟨rfl,H'⟩
 have H:=H.back (M1:=(_::(diskM _ _ _ _))) (W1:=[_]) H'
 have H:=H.ung 1
 have H:Hp w S O (_::(diskM db D0 sa0 sk0)) [_] [] _:=H
 refine uF 1 ?_
 refine uR 5 [.c [1,0,2,0,1],.c [2]] ?_
 refine qT (.I 70) Tryz.func20 ?_
 exact⟨_,rfl,rfl,H⟩
end Go.Proofs.YtdnibpclkhenmaaGreatDoor
