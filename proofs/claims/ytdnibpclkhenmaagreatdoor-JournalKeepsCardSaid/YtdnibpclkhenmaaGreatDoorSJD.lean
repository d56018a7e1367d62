import Derived.Test.YtdnibpclkhenmaaGreatDoorSBxA
import Derived.Test.YtdnibpclkhenmaaGreatDoorSJC
import Derived.Test.YtdnibpclkhenmaaGreatDoorSP0
import Derived.Test.YtdnibpclkhenmaaGreatDoorSBxB
namespace Go.Proofs.YtdnibpclkhenmaaGreatDoor
open Go.BX
theorem state_go{S:Nat→Prop}{w:World}{O:List Nat}{jb db:Nat}{nm:ByteArray}{x2 x3 x4 x5 x6 x7:Value}{D0:DiskD}{sa0:Option Addr}{sk0:Nat}(hdd:D0.dead=false)(H0:Hp w S O ((jb,.cells #[.P db 0,.string nm,x2,x3,x4,x5,x6,x7] 41 (0,0))::diskM db D0 sa0 sk0) [⟨stepS,143,.slice sa0 D0.steps.length sk0,D0.steps⟩] [] w):
 Calls Tryz.prog 54 #[.P jb 0] w (Ret fun v w'=>v=.I 0∧Hp w S O ((jb,.cells #[.P db 0,.string nm,x2,x3,x4,x5,x6,x7] 41 (0,0))::diskM db D0 sa0 sk0) [⟨stepS,143,.slice sa0 D0.steps.length sk0,D0.steps⟩] [] w'):=by
 refine uS1 Tryz.func54 ?_
 have H:=H0
 refine uR 5 [.c [1,0,0,0],.c [1,0,0,1],.b 0,.c [2]] ?_
 refine qG (sq 0 10) ?_
 refine uP 6 ?_
 refine uV 24 0 (H.cells 0 rfl) ?_
 refine uF 3 ?_
 refine uR 2 [.c [1,0,0,1,1,0],.c [1,0,0,1,1,1],.b 0,.c [2]] ?_
 refine qG (sq 0 6) ?_
 refine uP 3 ?_
 refine uV 24 0 (H.cells 0 rfl) ?_
 have H:=H.gat 0 1
 refine uKS (dDead hdd ((H.lend (M1:=(diskM _ _ _ _)) (W1:=[_])).pick [] rfl)) ?_
 rintro _ _⟨rfl,H'⟩
 have H:=H.back (M1:=(diskM _ _ _ _)) (W1:=[_]) H'
 have H:=H.ung 0
 have H:Hp w S O (_::(diskM db D0 sa0 sk0)) [_] [] _:=H
 refine uF 1 ?_
 refine uR 5 [.c [3]] ?_
 refine qT (.I 0) Tryz.func54 ?_
 exact⟨_,rfl,rfl,H⟩
theorem state_dead{S:Nat→Prop}{w:World}{O:List Nat}{jb db:Nat}{nm:ByteArray}{x2 x3 x4 x5 x6 x7:Value}{D0:DiskD}{sa0:Option Addr}{sk0:Nat}(hdd:D0.dead=true)(H0:Hp w S O ((jb,.cells #[.P db 0,.string nm,x2,x3,x4,x5,x6,x7] 41 (0,0))::diskM db D0 sa0 sk0) [⟨stepS,143,.slice sa0 D0.steps.length sk0,D0.steps⟩] [] w):
 Calls Tryz.prog 54 #[.P jb 0] w (Ret fun v w'=>v=.I 70∧Hp w S O ((jb,.cells #[.P db 0,.string nm,x2,x3,x4,x5,x6,x7] 41 (0,0))::diskM db D0 sa0 sk0) [⟨stepS,143,.slice sa0 D0.steps.length sk0,D0.steps⟩] [] w'):=by
 refine uS1 Tryz.func54 ?_
 have H:=H0
 refine uR 5 [.c [1,0,0,0],.c [1,0,0,1],.b 0,.c [2]] ?_
 refine qG (sq 0 10) ?_
 refine uP 6 ?_
 refine uV 24 0 (H.cells 0 rfl) ?_
 refine uF 3 ?_
 refine uR 2 [.c [1,0,0,1,1,0],.c [1,0,0,1,1,1],.b 0,.c [2]] ?_
 refine qG (sq 0 6) ?_
 refine uP 3 ?_
 refine uV 24 0 (H.cells 0 rfl) ?_
 have H:=H.gat 0 1
 refine uKS (dDead hdd ((H.lend (M1:=(diskM _ _ _ _)) (W1:=[_])).pick [] rfl)) ?_
 rintro _ _⟨rfl,H'⟩
 have H:=H.back (M1:=(diskM _ _ _ _)) (W1:=[_]) H'
 have H:=H.ung 0
 have H:Hp w S O (_::(diskM db D0 sa0 sk0)) [_] [] _:=H
 refine uF 1 ?_
 refine uR 3 [.c [1,0,0,1,1,1,0,1],.b 0,.c [2]] ?_
 refine qT (.I 70) Tryz.func54 ?_
 exact⟨_,rfl,rfl,H⟩
theorem jbase_spec{S:Nat→Prop}{w:World}{O:List Nat}{jb db:Nat}{nm:ByteArray}{x3 x4 x5 x6 x7:Value}{B:List (BitVec 8)}{ab:Option Addr}{cb:Nat}(hBl:B.length≤4194304)(H0:Hp w S O [(jb,.cells #[.P db 0,.string nm,.slice ab B.length cb,x3,x4,x5,x6,x7] 41 (0,0))] [] [Rp SB [.slice ab B.length cb] B] w):
 Calls Tryz.prog 18 #[.P jb 0] w (Ret fun v w'=>∃(a':Option Addr)(c':Nat),v=.slice a' B.length c'∧Hp w S O [(jb,.cells #[.P db 0,.string nm,.slice ab B.length cb,x3,x4,x5,x6,x7] 41 (0,0))] [⟨Sb,5,.slice a' B.length c',B⟩] [] w'):=by
 refine uS1 Tryz.func18 ?_
 have H:=H0
 refine uR 8 [.c [2,0],.c [3]] ?_
 refine qG (sq 0 6) ?_
 refine uP 3 ?_
 refine uV 23 2 (H.cells 0 rfl) ?_
 have H:=H.ownNil Sb 5
 have H:Hp w S O [_] [⟨Sb,5,.slice none 0 0,[]⟩] [_] _:=H
 refine uA 23 23 1 B H 0 rfl 0 rfl (rfl) (by omega) ?_
 intro a b _ H _
 have H:Hp w S O [_] [⟨Sb,5,.slice a B.length b,B⟩] [_] _:=H
 refine uF 1 ?_
 refine qT (.slice a B.length b) Tryz.func18 ?_
 have H:=H.pick [] rfl
 exact⟨_,rfl,_,_,rfl,H⟩
theorem jrecs_spec{S:Nat→Prop}{w:World}{O:List Nat}{jb db:Nat}{nm:ByteArray}{x2 x4 x5 x6 x7:Value}{R:List (List (BitVec 8))}{ar:Option Addr}{cr:Nat}(hRl:R.length≤100000000)(hRb:∀r∈R,r.length≤4194304)(H0:Hp w S O [(jb,.cells #[.P db 0,.string nm,x2,.slice ar R.length cr,x4,x5,x6,x7] 41 (0,0))] [⟨SB,23,.slice ar R.length cr,R⟩] [] w):
 Calls Tryz.prog 19 #[.P jb 0] w (Ret fun v w'=>∃(a':Option Addr)(c':Nat),v=.slice a' R.length c'∧Hp w S O [(jb,.cells #[.P db 0,.string nm,x2,.slice ar R.length cr,x4,x5,x6,x7] 41 (0,0))] [⟨SB,23,.slice a' R.length c',R⟩,⟨SB,23,.slice ar R.length cr,R⟩] [] w'):=by
 refine uS1 Tryz.func19 ?_
 have H:=H0
 refine uR 11 [.c [3,0,0],.c [3,0,1],.c [4]] ?_
 refine qG (sq 0 6) ?_
 refine uP 3 ?_
 refine uV 22 3 (H.cells 0 rfl) ?_
 refine uF 2 ?_
 refine uR 1 [.c [3,0,1,0],.b 0,.c [4]] ?_
 have H:=H.ownNil SB 23
 have H:=H.take 1 2
 refine uL (α:=Nat×Option Addr×Nat) (g:=19) (p:=[3,0,1,0,0]) (fun(i,aO,cO)=>[(3,.slice aO (R.take i).length cO),(11,.slice ar R.length cr),(12,.I ((R.length:Nat):Int)),(13,.I i)]) (fun(i,aO,cO)w'=>Hp w S O [(jb,.cells #[.P db 0,.string nm,x2,.slice ar R.length cr,x4,x5,x6,x7] 41 (0,0))] [⟨SB,23,.slice aO (R.take i).length cO,R.take i⟩,⟨SB,23,.slice ar R.length cr,R⟩] [] w'∧i≤R.length) (fun(i,aO,cO)=>R.length-i) (0,none,0) ⟨H,Nat.zero_le _⟩ ?_
 rintro⟨i,aO,cO⟩_⟨H,hi⟩j
 refine uR 3 [.c [3,0,1,0,0,1,0],.c [3,0,1,0,0,2],.l [3,0,1,0,0],.b 0,.c [4]] ?_
 refine qD (((i:Int):Int)<((R.length:Nat):Int)) (fun y=>?_) (fun y=>?_)
 ·
  have hrb:=hRb R[i] (List.getElem_mem (by omega))
  refine uR 4 [.c [3,0,1,0,0,2,0,0,0],.c [3,0,1,0,0,2,0,0,1],.b 1,.c [3,0,1,0,0,3],.l [3,0,1,0,0],.b 0,.c [4]] ?_
  refine qG (sq 0 3) ?_
  have H:=H.frontW 1 rfl
  have u:R.length=R.length:=rfl
  have x:i<R.length:=by omega
  refine RW.indexW (κ:=.seq) (d:=some 15) (r:=(sq 1 3)) (T:=22) (e:=23) (m:=1) (ik:=.i64) (ix:=(i:Int)) (sh:=SB) (xs:=R) (a:=ar) (len:=R.length) (cap:=cr) (by as_aux_lemma=>kernel_rfl) (by as_aux_lemma=>kernel_rfl) rfl H i (by omega) x u ?_
  intro _ _ _ k n
  obtain⟨_,_,rfl⟩:=Shape.slice_form' n
  have H:=H.addR n
  refine uV 23 0 k ?_
  refine uF 1 ?_
  refine qG (sq 0 6) ?_
  refine uP 2 ?_
  have H:=H.ownNil Sb 5
  have H:Hp w S O [_] [⟨Sb,5,.slice none 0 0,[]⟩,_,_] [_] _:=H
  refine uA 23 23 1 (R[i]) H 0 rfl 0 rfl (rfl) (by omega) ?_
  intro f h _ H _
  have H:Hp w S O [_] [⟨Sb,5,.slice f (R[i]).length h,R[i]⟩,_,_] [_] _:=H
  refine RW.new (κ:=.seq) (d:=some 20) (r:=(sq 4 6)) (o:=.cells #[.slice f (R[i]).length h] 23 (0,0)) (v:=fun b=>.slice (some ⟨b,0,none⟩) 1 1) (fun b=>by as_aux_lemma=>kernel_rfl) (nofun) H ?_
  intro q _ H
  have H:Hp w S O [(q,.cells #[.slice f (R[i]).length h] 23 (0,0)),_] [_,_] [Rp SB [.slice f (R[i]).length h] (R[i]),_] _:=H.freezeW 0 rfl
  have H:=H.freeze 0 rfl SB ([R[i]]:List (List (BitVec 8))) 1 (by simp[maxLen]) (by first|exact Nat.le_refl _|simp) (EsP.cons (c:=[.slice f (R[i]).length h]) (H.rp 0 rfl) EsP.nil)
  have H:Hp w S O [_] [_,_] [Rp (Shape.slice SB) [.slice (some ⟨q,0,none⟩) 1 1] ([R[i]]:List (List (BitVec 8))),_,_] _:=H
  refine uA 22 22 24 (R.take (i+1)) H 1 rfl 0 rfl ((snoc_take (by omega)).symm) (by rw[List.length_take];omega) ?_
  intro s t _ H _
  have H:Hp w S O [_] [_,⟨SB,23,.slice s ((R.take (i+1)).length) t,(R.take (i+1))⟩] [_,_,_] _:=H
  refine uF 1 ?_
  refine uR 1 [.c [3,0,1,0,0,3],.l [3,0,1,0,0],.b 0,.c [4]] ?_
  refine qG (sq 0 2) ?_
  refine uI ((i:Int)+1) ?_
  refine uF 1 ?_
  have H:=H.pick [] rfl
  have H:=H.frontW 1 rfl
  exact uB (j (i+1,s,t) _ ⟨H,by omega⟩ (by first|omega|(simp only[];omega)))
 ·
  refine uR 3 [.c [5]] ?_
  refine qT (.slice aO (R.take i).length cO) Tryz.func19 ?_
  have hRt:R.take i=R:=List.take_of_length_le (by omega)
  rw[hRt]at H
  exact⟨_,rfl,_,_,by rw[hRt],H⟩
end Go.Proofs.YtdnibpclkhenmaaGreatDoor

namespace Go.Proofs.YtdnibpclkhenmaaGreatDoor
open Go.BX
theorem plain_spec{S:Nat→Prop}{w:World}{x:ByteArray}(hx:x.size≤140737488355328):
 Calls Tryz.prog 50 #[.string x] w (Ret fun v w'=>Ext w w'∧∃bb:Bool,v=.bool bb∧(bb=true↔PlainN x)):=by
 have hbl:=bytesOf_len x
 refine uS1 Tryz.func50 ?_
 have H:=Hp.startF (w:=w) (S:=S) (G:=[]) .nil
 refine uR 4 [.c [1,0,0],.c [1,0,1],.c [2]] ?_
 refine qG (sq 0 4) ?_
 refine uP 1 ?_
 refine RW.ofStr (κ:=.seq) (d:=some 6) (r:=(sq 2 4)) (Ts:=9) (Td:=23) 5 (s:=x) (by as_aux_lemma=>kernel_rfl) (nofun) (by as_aux_lemma=>kernel_rfl) (by unfold maxLen;omega) H ?_
 intro k m _ H
 refine uF 2 ?_
 refine uR 1 [.c [1,0,1,0],.b 0,.c [2]] ?_
 refine uL (α:=Nat) (g:=50) (p:=[1,0,1,0,0]) (fun i=>[(0,.string x),(6,.slice k (bytesOf x).length m),(7,.I (((bytesOf x).length:Nat):Int)),(8,.I i)]) (fun i w'=>Hp w S [] [] [] [Rp SB [.slice k (bytesOf x).length m] (bytesOf x)] w'∧i≤(bytesOf x).length∧∀j(h:j<(bytesOf x).length),j<i→97≤((bytesOf x)[j]).toNat∧((bytesOf x)[j]).toNat≤122) (fun i=>(bytesOf x).length-i) 0 ⟨H,Nat.zero_le _,fun j _ h=>absurd h (Nat.not_lt_zero j)⟩ ?_
 rintro i _⟨H,⟨hi,hall⟩⟩f
 refine uR 3 [.c [1,0,1,0,0,1,0],.c [1,0,1,0,0,2],.l [1,0,1,0,0],.b 0,.c [2]] ?_
 refine qD (((i:Int):Int)<(((bytesOf x).length:Nat):Int)) (fun u=>?_) (fun u=>?_)
 ·
  refine uR 4 [.c [1,0,1,0,0,2,0,0,0],.c [1,0,1,0,0,2,0,0,1],.b 1,.c [1,0,1,0,0,3],.l [1,0,1,0,0],.b 0,.c [2]] ?_
  refine qG (sq 0 3) ?_
  have o:i<(bytesOf x).length:=by omega
  refine uX 23 (i:Int) H 0 rfl i (by omega) (List.getElem?_eq_getElem o) ?_
  intro _ _ _ n H
  obtain rfl:=n
  refine uV 5 0 (H.fc 0 rfl) ?_
  refine uF 1 ?_
  refine uR 1 [.c [1,0,1,0,0,2,0,0,1,0],.c [1,0,1,0,0,2,0,0,2],.b 1,.c [1,0,1,0,0,3],.l [1,0,1,0,0],.b 0,.c [2]] ?_
  refine qG (sq 0 6) ?_
  refine uP 3 ?_
  refine uD 14 ((((((bytesOf x)[i]).toNat:Nat):Int):Int)<97) (fun q=>?_) (fun q=>?_)
  ·
   refine uF 3 ?_
   refine uR 3 [.c [1,0,1,0,0,2,0,0,2,0,1],.b 1,.c [1,0,1,0,0,3],.l [1,0,1,0,0],.b 0,.c [2]] ?_
   refine qT (.bool false) Tryz.func50 ?_
   exact⟨_,rfl,H.done,false,rfl,plain_bad (i:=i) (by omega) (by omega)⟩
  ·
   refine uF 3 ?_
   refine qD ((((((bytesOf x)[i]).toNat:Nat):Int):Int)>122) (fun t=>?_) (fun t=>?_)
   ·
    refine uR 2 [.c [1,0,1,0,0,2,0,0,2,0,1],.b 1,.c [1,0,1,0,0,3],.l [1,0,1,0,0],.b 0,.c [2]] ?_
    refine qT (.bool false) Tryz.func50 ?_
    exact⟨_,rfl,H.done,false,rfl,plain_bad (i:=i) (by omega) (by omega)⟩
   ·
    refine uR 2 [.c [1,0,1,0,0,3],.l [1,0,1,0,0],.b 0,.c [2]] ?_
    refine qG (sq 0 2) ?_
    refine uI ((i:Int)+1) ?_
    refine qF 1 [(0,.string x),(6,.slice k (bytesOf x).length m),(7,.I (((bytesOf x).length:Nat):Int)),(8,.I ((i:Int)+1))] ?_
    have H:=H.pick [1] rfl
    exact uB (f (i+1) _ ⟨H,by omega,fun j hj h=>(Nat.lt_succ_iff_lt_or_eq.1 h).elim (hall j hj) (fun e=>by subst e;omega)⟩ (by first|omega|(simp only[];omega)))
 ·
  refine uR 2 [.c [2,0],.c [3]] ?_
  refine qG (sq 0 8) ?_
  refine uP 3 ?_
  refine uT 21 (!(x.toList==(⟨#[]⟩:ByteArray).toList)) (fun a=>?_) (fun a=>?_)
  ·
   replace a:(x.toList==(⟨#[]⟩:ByteArray).toList)=false:=by revert a;cases(x.toList==(⟨#[]⟩:ByteArray).toList)<;>simp
   replace a:=ne_of_beq_false a
   refine uF 5 ?_
   refine qT (.bool (decide ((((x.size:Nat):Int):Int)≤16))) Tryz.func50 ?_
   exact⟨_,rfl,H.done,_,rfl,plain_fin a fun j hj=>hall j hj (by omega)⟩
  ·
   replace a:(x.toList==(⟨#[]⟩:ByteArray).toList)=true:=by revert a;cases(x.toList==(⟨#[]⟩:ByteArray).toList)<;>simp
   replace a:=eq_of_beq a
   refine uF 5 ?_
   refine qT (.bool false) Tryz.func50 ?_
   exact⟨_,rfl,H.done,false,rfl,plain_emp a⟩
end Go.Proofs.YtdnibpclkhenmaaGreatDoor

namespace Go.Proofs.YtdnibpclkhenmaaGreatDoor
open Go.BX
set_option maxHeartbeats 2000000 in
theorem turned_spec{S:Nat→Prop}{w:World}{O:List Nat}{jb db:Nat}{nm:ByteArray}{x2 x3 x4 x5 x6 x7:Value}{D0:DiskD}{sa0:Option Addr}{sk0:Nat}{V:VV}{cur:Option Sg}{g n:Nat}{b:List (BitVec 8)}{ax:Option Addr}{cx:Nat}(hp:PlainB nm)(hd:DI D0)(ha:Al D0 (n+250000))(hL:LJ D0 nm V cur g)(hg:g<1000000)(hb:b.length≤3000000)(hroom:D0.now.length<256)(H0:Hp w S O ((jb,.cells #[.P db 0,.string nm,x2,x3,x4,x5,x6,x7] 41 (0,0))::diskM db D0 sa0 sk0) [⟨stepS,143,.slice sa0 D0.steps.length sk0,D0.steps⟩] [Rp SB [.slice ax b.length cx] b,Fz jQ] w):
 Calls Tryz.prog 55 #[.P jb 0,.slice ax b.length cx,.I ((g:Int)+1)] w (Ret fun v w'=>(v=.nilIface∧∃(D':DiskD)(sa':Option Addr)(sk':Nat),(∃p,LV D' nm ⟨g+1,p,b,[]⟩ none (g+1))∧DI D'∧Al D' (n+1000)∧Stp nm D0 D'∧Cp 1 D0 D'∧Hp w S O ((jb,.cells #[.P db 0,.string nm,x2,x3,x4,x5,x6,x7] 41 (0,0))::diskM db D' sa' sk') [diskW D' sa' sk'] [] w')∨(∃eb:Nat,v=.iface 200 (.P eb 0)∧∃(D':DiskD)(sa':Option Addr)(sk':Nat),Dd D0 D' nm (g+1) (fun B lo hi=>(PJ V cur B lo hi∨(B=b∧hi=[])))∧Hp w S O ((eb,.cells #[.I 70] 204 (0,0))::(jb,.cells #[.P db 0,.string nm,x2,x3,x4,x5,x6,x7] 41 (0,0))::diskM db D' sa' sk') [diskW D' sa' sk'] [] w')):=by
 have J:=(FForm.temp hp).size.1
 have a0:=(fform_c hp (Nat.succ_pos g) hg).size.1
 have K:=hL.noT hp
 have n0:nm.size≤16:=hp.1
 have o0:({data:=#[46,116]}:ByteArray).size=2:=rfl
 rw[←nm_now hd.ok]at K
 have b0:=tpP (n:=n+1001) hp hL hb hroom
 have c0:=TpS.start (n:=n+1001) (b:=b) hd (ha.mono (by omega)) hL
 refine uS1 Tryz.func55 ?_
 have H:=H0
 refine uR 3 [.c [1,0],.c [2]] ?_
 refine WK.drawH1 [] (.leaf [(0,.qui),(1,.qui),(2,.qui),(3,.qui),(4,.qui),(5,.qui),(6,.qui),(7,.seq),(8,.qui),(9,.qui)]) Tryz_mixed (by as_aux_lemma=>kernel_rfl) (by as_aux_lemma=>kernel_rfl) ?_
 intro w1 L
 have H:=H.draw
 rw[←L]at H
 clear L
 have hS:=Chg.refl w1 []
 refine RG.leaf' [(0,.qui),(1,.qui),(2,.qui),(3,.qui),(4,.qui),(5,.qui),(6,.qui),(7,.seq),(8,.qui),(9,.qui)] (by as_aux_lemma=>kernel_rfl) ?_
 refine uHP hS 3 ?_
 refine uHV 9 1 hS (H.cells 0 rfl) nq0 ?_
 refine RH.readS (d:=some 21) (r:=[(5,.qui),(6,.qui),(7,.seq),(8,.qui),(9,.qui)]) (s:=semV (Op.stringOp .add nm (⟨#[46,116]⟩:ByteArray))) (v:=.string (nm++(⟨#[46,116]⟩:ByteArray))) (by as_aux_lemma=>kernel_rfl) hS (fun w' _=>semV_run (run_string_add_sum w' _ _ (by omega))) ?_
 refine uHP hS 2 ?_
 have Hr:=H
 refine RH.chn hS ?_
 have d0:=H.viewF 1 rfl
 refine uK (jfile_spec (S:=fun _=>True) (kd:=kC) (n:=g+1) (H.viewM 0 rfl (by simp)) d0 (by omega) hp (.inr rfl)) ?_
 rintro _ _ e0 rfl
 have H:=H.ext e0
 intro hS
 refine uHF hS 2 ?_
 refine uR 1 [.c [2,0],.c [3]] ?_
 refine qG (sq 0 7) ?_
 refine uP 1 ?_
 refine uK (frame_spec (xs:=b) (H.rp 0 rfl) (by omega)) ?_
 rintro _ _-⟨M,N,rfl,H'⟩
 have H:=H.back (M1:=[]) (W1:=[]) H'
 have H:Hp w S O (_::(diskM db D0 sa0 sk0)) [⟨Sb,5,.slice M (frameF b).length N,(frameF b)⟩,_] [_,_] _:=H
 refine uF 5 ?_
 refine uR 2 [.c [3,0,0],.c [3,0,1],.c [4]] ?_
 refine qG (sq 0 11) ?_
 refine uP 3 ?_
 refine uV 24 0 (H.cells 0 rfl) ?_
 refine uP 1 ?_
 have H:=H.frontW 1 rfl
 have H:=H.gat 0 1
 refine uKS ((dSizeNo hd.ok ha.dead K) ((H.lend (M1:=(diskM _ _ _ _)) (W1:=[_])).pick [] rfl)) ?_
 rintro _ _⟨rfl,H'⟩
 have H:=H.back (M1:=(diskM _ _ _ _)) (W1:=[_]) H'
 have H:=H.ung 0
 have H:Hp w S O (_::_) [_,_] [_,_] _:=H
 refine qF 5 [(0,.P jb 0),(7,.string (nm++(⟨#[46,116]⟩:ByteArray))),(8,.string (cN nm (g+1))),(9,.slice M (frameF b).length N),(12,.I 71)] ?_
 refine uR 6 [.c [4,0,0],.c [4,0,1],.c [5]] ?_
 refine qG (sq 0 5) ?_
 refine uP 3 ?_
 have H:Hp w S O (_::_) [_] [Rp SB [.slice M (frameF b).length N] (frameF b),_,_] _:=H.freezeW 1 rfl
 have H:=H.gat 1 0
 refine uKS (jwrite_spec (τ:=(frameF b)) (fr:=0) b0 c0 rfl (Nat.zero_le _) (by rw[frame_len];omega) J ((H.lend (M1:=(_::(diskM _ _ _ _))) (W1:=[_])).pick [0] rfl)) ?_
 rintro _ _(⟨_,Q,_,rfl,t,u,x,R,H'⟩|⟨y,rfl,t,u,x,T,H'⟩)
 ·
  have H:=H.back (M1:=(_::(diskM _ _ _ _))) (W1:=[_]) H'
  have H:=H.ung 1
  have H:Hp w S O (_::(diskM db t u x)) [⟨stepS,143,.slice u t.steps.length x,t.steps⟩] [_,_,_] _:=H
  have hTd:=TpS.done R Q hb (by omega)
  refine uF 1 ?_
  refine uR 6 [.c [5,0,0],.c [5,0,1],.c [6]] ?_
  refine qG (sq 0 7) ?_
  refine uP 3 ?_
  refine uV 24 0 (H.cells 0 rfl) ?_
  refine uP 1 ?_
  have H:=H.gat 0 1
  refine RW.callS (d:=some 63) (r:=(sq 6 7)) (g:=60) (args:=#[.P db 0,.string (nm++(⟨#[46,116]⟩:ByteArray))]) (by as_aux_lemma=>kernel_rfl) (dSync (hTd.al.rdy hTd.di).di.ok (hTd.al.rdy hTd.di).st (hTd.al.rdy hTd.di).dead (hTd.al.rdy hTd.di).hl ((H.lend (M1:=(diskM _ _ _ _)) (W1:=[_])).pick [] rfl)) ?_
  rintro _ _⟨f,l,m,⟨f0,rfl,z⟩,H'⟩
  have H:=H.back (M1:=(diskM _ _ _ _)) (W1:=[_]) H'
  have H:=H.ung 0
  have H:Hp w S O (_::(diskM db f l m)) [⟨stepS,143,.slice l f.steps.length m,f.steps⟩] [_,_,_] _:=H
  have z:SyncR t (nm++(⟨#[46,116]⟩:ByteArray)) f0 f:=z
  rcases hTd.sync hp z with⟨rfl,U⟩|⟨rfl,a⟩
  ·
   refine uF 1 ?_
   refine uR 4 [.c [5,0,2,0,0],.c [5,0,2,0,1],.c [6]] ?_
   refine qG (sq 0 3) ?_
   refine uP 1 ?_
   refine uK (told_spec (S:=Av S w O (idsOf ((jb,.cells #[.P db 0,.string nm,x2,x3,x4,x5,x6,x7] 41 (0,0))::(diskM db f l m)) [⟨stepS,143,.slice l f.steps.length m,f.steps⟩]))) ?_
   rintro _ _-⟨A,rfl,H'⟩
   have H:=H.back (M1:=[]) (W1:=[]) H'
   have H:Hp w S O ((A,.cells #[.I 70] 204 (0,0))::_::_) [_] [_,_,_] _:=H
   refine uF 1 ?_
   refine qT (.iface 200 (.P A 0)) Tryz.func55 ?_
   have H:=H.pick [] rfl
   exact⟨_,rfl,.inr ⟨A,rfl,f,l,m,(U).mono (Nat.le_succ g) fun _ _ _ G=>.inl G,H⟩⟩
  ·
   refine uF 1 ?_
   refine uR 6 [.c [6,0,0],.c [6,0,1],.c [7]] ?_
   refine qG (sq 0 8) ?_
   refine uP 3 ?_
   refine uV 24 0 (H.cells 0 rfl) ?_
   refine uP 2 ?_
   have H:=H.gat 0 1
   refine uKS (dRename (a.al.rdy a.di).di.ok (a.al.rdy a.di).st (a.al.rdy a.di).dead (by unfold maxLen;exact Nat.le_trans J (by decide)) (by unfold maxLen;exact Nat.le_trans a0 (by decide)) (a.al.rdy a.di).hl ((H.lend (M1:=(diskM _ _ _ _)) (W1:=[_])).pick [] rfl)) ?_
   rintro _ _⟨h,o,q,⟨g0,rfl,C⟩,H'⟩
   have H:=H.back (M1:=(diskM _ _ _ _)) (W1:=[_]) H'
   have H:=H.ung 0
   have H:Hp w S O (_::(diskM db h o q)) [⟨stepS,143,.slice o h.steps.length q,h.steps⟩] [_,_,_] _:=H
   have C:RenameR f (nm++(⟨#[46,116]⟩:ByteArray)) (cN nm (g+1)) g0 h:=C
   rcases TpD.rn hp hg hb a C with⟨rfl,W⟩|⟨rfl,e⟩
   ·
    refine uF 1 ?_
    refine uR 4 [.c [6,0,2,0,0],.c [6,0,2,0,1],.c [7]] ?_
    refine qG (sq 0 3) ?_
    refine qP 1 (sq 1 3) [(77,.I 70)] ?_
    refine uK (told_spec (S:=Av S w O (idsOf ((jb,.cells #[.P db 0,.string nm,x2,x3,x4,x5,x6,x7] 41 (0,0))::(diskM db h o q)) [⟨stepS,143,.slice o h.steps.length q,h.steps⟩]))) ?_
    rintro _ _-⟨D,rfl,H'⟩
    have H:=H.back (M1:=[]) (W1:=[]) H'
    have H:Hp w S O ((D,.cells #[.I 70] 204 (0,0))::_::_) [_] [_,_,_] _:=H
    refine uF 1 ?_
    refine qT (.iface 200 (.P D 0)) Tryz.func55 ?_
    have H:=H.pick [] rfl
    exact⟨_,rfl,.inr ⟨D,rfl,h,o,q,(W).mono (Nat.le_succ g) fun _ _ _ G=>.inl G,H⟩⟩
   ·
    refine uF 1 ?_
    refine uR 5 [.c [7,0],.c [8]] ?_
    refine qG (sq 0 8) ?_
    refine uP 3 ?_
    refine uV 24 0 (H.cells 0 rfl) ?_
    refine uP 1 ?_
    have H:=H.gat 0 1
    refine RW.callS (d:=some 84) (r:=(sq 6 8)) (g:=60) (args:=#[.P db 0,.string (cN nm (g+1))]) (by as_aux_lemma=>kernel_rfl) (dSync (e.al.rdy e.di).di.ok (e.al.rdy e.di).st (e.al.rdy e.di).dead (e.al.rdy e.di).hl ((H.lend (M1:=(diskM _ _ _ _)) (W1:=[_])).pick [] rfl)) ?_
    rintro _ _⟨i,j,k,⟨h0,rfl,E⟩,H'⟩
    have H:=H.back (M1:=(diskM _ _ _ _)) (W1:=[_]) H'
    have H:=H.ung 0
    have H:Hp w S O (_::(diskM db i j k)) [⟨stepS,143,.slice j i.steps.length k,i.steps⟩] [_,_,_] _:=H
    have E:SyncR h (cN nm (g+1)) h0 i:=E
    rcases CkS.sync e E with⟨rfl,X⟩|⟨rfl,Y⟩
    ·
     refine uK (told_spec (S:=Av S w O (idsOf ((jb,.cells #[.P db 0,.string nm,x2,x3,x4,x5,x6,x7] 41 (0,0))::(diskM db i j k)) [⟨stepS,143,.slice j i.steps.length k,i.steps⟩]))) ?_
     rintro _ _-⟨F,rfl,H'⟩
     have H:=H.back (M1:=[]) (W1:=[]) H'
     have H:Hp w S O ((F,.cells #[.I 70] 204 (0,0))::_::_) [_] [_,_,_] _:=H
     refine uF 1 ?_
     refine qT (.iface 200 (.P F 0)) Tryz.func55 ?_
     have H:=H.pick [] rfl
     exact⟨_,rfl,.inr ⟨F,rfl,i,j,k,X,H⟩⟩
    ·
     refine uK (told_zero (S:=fun _=>True)) ?_
     rintro _ _ Z rfl
     have H:=H.ext Z
     refine uF 1 ?_
     refine qT .nilIface Tryz.func55 ?_
     have H:=H.pick [] rfl
     obtain⟨i0,j0,k0,l0,m0⟩:=Y
     exact⟨_,rfl,.inl ⟨rfl,i,j,k,m0,i0,j0,k0,l0,H⟩⟩
 ·
  have H:=H.back (M1:=(_::(diskM _ _ _ _))) (W1:=[_]) H'
  have H:=H.ung 2
  have H:Hp w S O ((y,.cells #[.I 70] 204 (0,0))::_::_) [_] [_,_,_] _:=H
  refine uF 1 ?_
  refine uR 5 [.c [4,0,2,0,1],.c [5]] ?_
  refine qT (.iface 200 (.P y 0)) Tryz.func55 ?_
  have H:=H.pick [] rfl
  exact⟨_,rfl,.inr ⟨y,rfl,t,u,x,(T).mono (Nat.le_succ g) fun _ _ _ G=>.inl G,H⟩⟩
end Go.Proofs.YtdnibpclkhenmaaGreatDoor

namespace Go.Proofs.YtdnibpclkhenmaaGreatDoor
open Go.BX
set_option maxHeartbeats 1000000 in
theorem jsync_spec{S:Nat→Prop}{w:World}{O:List Nat}{jb db g:Nat}{nm seg:ByteArray}{sy:Bool}{B σ:List (BitVec 8)}{R0 R:List (List (BitVec 8))}{ab ar as_:Option Addr}{cb cr cs n q:Nat}{D0:DiskD}{sa0:Option Addr}{sk0:Nat}(hp:PlainB nm)(hd:DI D0)(ha:Al D0 (n+300000))(hJ:JL D0 nm B R0 R g seg σ sy q)(H0:Hp w S O ((jb,.cells #[.P db 0,.string nm,.slice ab B.length cb,.slice ar R.length cr,.I g,.string seg,.slice as_ σ.length cs,.bool sy] 41 (0,0))::diskM db D0 sa0 sk0) [⟨SB,23,.slice ar R.length cr,R⟩,⟨stepS,143,.slice sa0 D0.steps.length sk0,D0.steps⟩] [Rp SB [.slice ab B.length cb] B,Rp SB [.slice as_ σ.length cs] σ,Fz jQ] w):
 Calls Tryz.prog 20 #[.P jb 0] w (Ret fun v w'=>(v=.I 0∧∃(D':DiskD)(sa':Option Addr)(sk':Nat),JL D' nm B R R g seg σ true q∧DI D'∧Al D' n∧Stp nm D0 D'∧Cp 1 D0 D'∧Hp w S O ((jb,.cells #[.P db 0,.string nm,.slice ab B.length cb,.slice ar R.length cr,.I g,.string seg,.slice as_ σ.length cs,.bool true] 41 (0,0))::diskM db D' sa' sk') [⟨SB,23,.slice ar R.length cr,R⟩,diskW D' sa' sk'] [Rp SB [.slice ab B.length cb] B,Rp SB [.slice as_ σ.length cs] σ] w')∨(∃(y4 y5 y6 y7:Value)(D':DiskD)(sa':Option Addr)(sk':Nat),v=.I 70∧Dd D0 D' nm g (fun B' lo hi=>B'=B∧R0<+:lo∧hi<+:R)∧Hp w S O ((jb,.cells #[.P db 0,.string nm,.slice ab B.length cb,.slice ar R.length cr,y4,y5,y6,y7] 41 (0,0))::diskM db D' sa' sk') [⟨SB,23,.slice ar R.length cr,R⟩,diskW D' sa' sk'] [Rp SB [.slice ab B.length cb] B] w')):=by
 obtain⟨V,cur,hL,hB,j,hR,hseg,hst,k,l,hVq⟩:=hJ
 refine uS1 Tryz.func20 ?_
 have H:=H0
 refine uR 4 [.c [1,0,0],.c [1,0,1],.c [2]] ?_
 refine qG (sq 0 3) ?_
 refine uP 1 ?_
 have H:=H.frontW 1 rfl
 have H:=H.gat 1 0
 refine uKS (state_go ha.dead ((H.lend (M1:=(_::(diskM _ _ _ _))) (W1:=[_])).pick [] rfl)) ?_
 rintro _ s⟨rfl,H'⟩
 have H:=H.back (M1:=(_::(diskM _ _ _ _))) (W1:=[_]) H'
 have H:=H.ung 1
 have H:Hp w S O (_::(diskM db D0 sa0 sk0)) [_,_] [_,_,_] _:=H
 refine uF 1 ?_
 refine uR 1 [.c [1,0,1,0],.c [1,0,2],.c [2]] ?_
 refine qG (sq 0 8) ?_
 refine uP 6 ?_
 refine uV 4 7 (H.cells 0 rfl) ?_
 refine uF 1 ?_
 refine qC sy (fun m=>?_) (fun m=>?_)
 ·
  refine uR 2 [.c [1,0,2,0,1],.c [2]] ?_
  refine qT (.I 0) Tryz.func20 ?_
  have H:=H.pick [0,1] rfl
  have H:=H.frontW 1 rfl
  have hsy:sy=true:=by simpa using m
  subst hsy
  exact⟨_,rfl,.inl ⟨rfl,D0,sa0,sk0,⟨V,cur,hL,hB,by rw[k rfl];exact hR,hR,hseg,hst,k,l,hVq⟩,hd,ha.mono (Nat.le_add_right n 300000),Stp.refl _ _,Cp.refl _ _,H⟩⟩
 ·
  obtain⟨c,hc⟩:∃c,cur=some c:=Option.ne_none_iff_exists'.1 (l (by simpa using m))
  have i:seg=sN nm g:=by rw[hseg,hc];rfl
  have t:LJ D0 nm V (some c) g:=hc▸hL
  subst i
  rw[hc]at j hR hst hseg
  refine uR 2 [.c [2,0],.c [3]] ?_
  refine WK.draw1 8 (qs [0,1,2,3,4,5,6,7]) [(0,.qui),(1,.qui),(2,.qui),(3,.qui),(4,.qui),(5,.qui),(6,.qui),(7,.qui),(8,.seq),(9,.seq)] Tryz_mixed (by as_aux_lemma=>kernel_rfl) (by as_aux_lemma=>kernel_rfl) (by as_aux_lemma=>kernel_rfl) ?_
  have H:=H.draw
  generalize({s with drawn:=s.drawn+1}:World)=E at H⊢
  refine uP 3 ?_
  refine uV 24 0 (H.cells 0 rfl) ?_
  refine uP 3 ?_
  refine uV 9 5 (H.cells 0 rfl) ?_
  have H:=H.gat 0 1
  refine RW.callS (d:=some 24) (r:=[(9,.seq)]) (g:=60) (args:=#[.P db 0,.string (sN nm g)]) (by as_aux_lemma=>kernel_rfl) (dSync (ha.rdy hd).di.ok (ha.rdy hd).st (ha.rdy hd).dead (ha.rdy hd).hl ((H.lend (M1:=(diskM _ _ _ _)) (W1:=[_])).pick [] rfl)) ?_
  rintro _ _⟨f,a,b,⟨C,rfl,h⟩,H'⟩
  have H:=H.back (M1:=(diskM _ _ _ _)) (W1:=[_]) H'
  have H:=H.ung 0
  have H:Hp w S O ((jb,.cells #[.P db 0,.string nm,.slice ab B.length cb,.slice ar R.length cr,.I g,.string (sN nm g),.slice as_ σ.length cs,.bool sy] 41 (0,0))::(diskM db f a b)) [⟨stepS,143,.slice a f.steps.length b,f.steps⟩,_] [_,_,_] _:=H
  have h:SyncR D0 (sN nm g) C f:=h
  rcases syncJ hd hp (ha.mono (Nat.le_add_right n 300000)) t h with⟨rfl,o⟩|⟨rfl,p⟩
  ·
   refine uF 1 ?_
   refine uR 1 [.c [3,0],.c [4]] ?_
   refine qG (sq 0 6) ?_
   refine uP 5 ?_
   refine qW 4 jb 7 (sq 6 6) (.bool false) ((jb,.cells #[.P db 0,.string nm,.slice ab B.length cb,.slice ar R.length cr,.I g,.string (sN nm g),.slice as_ σ.length cs,.bool false] 41 (0,0))::(diskM db f a b)) H 0 rfl rfl ?_
   intro _ H
   refine uF 0 ?_
   refine uR 2 [.c [5]] ?_
   refine qT (.I 70) Tryz.func20 ?_
   have H:=H.pick [0] rfl
   have H:=H.frontW 1 rfl
   exact⟨_,rfl,.inr ⟨_,_,_,_,f,a,b,rfl,(o).mono (Nat.le_refl _) fun _ _ _ D=>by rw[←hB,←j,←hR];exact D,H⟩⟩
  ·
   refine uF 1 ?_
   refine uR 1 [.c [3,0],.c [4]] ?_
   refine qG (sq 0 6) ?_
   refine uP 5 ?_
   refine qW 4 jb 7 (sq 6 6) (.bool true) ((jb,.cells #[.P db 0,.string nm,.slice ab B.length cb,.slice ar R.length cr,.I g,.string (sN nm g),.slice as_ σ.length cs,.bool true] 41 (0,0))::(diskM db f a b)) H 0 rfl rfl ?_
   intro _ H
   refine uF 0 ?_
   refine uR 2 [.c [5]] ?_
   refine qT (.I 0) Tryz.func20 ?_
   have H:=H.pick [0,1] rfl
   have H:=H.frontW 1 rfl
   obtain⟨u,x,y,z,A⟩:=p
   exact⟨_,rfl,.inl ⟨rfl,f,a,b,⟨V,_,A,hB,hR,hR,hseg,hst,fun _=>rfl,fun e=>(by cases e),hVq⟩,u,x,y,z,H⟩⟩
end Go.Proofs.YtdnibpclkhenmaaGreatDoor

namespace Go.Proofs.YtdnibpclkhenmaaGreatDoor
open Go.BX
set_option maxHeartbeats 2000000 in
theorem jcheck_spec{S:Nat→Prop}{w:World}{O:List Nat}{jb db g:Nat}{nm seg:ByteArray}{sy:Bool}{B σ:List (BitVec 8)}{R0 R:List (List (BitVec 8))}{ab ar as_:Option Addr}{cb cr cs n q:Nat}{D0:DiskD}{sa0:Option Addr}{sk0:Nat}{b:List (BitVec 8)}{ax:Option Addr}{cx:Nat}(hp:PlainB nm)(hd:DI D0)(ha:Al D0 (n+300000))(hJ:JL D0 nm B R0 R g seg σ sy q)(hg:g<1000000)(hb:b.length≤3000000)(hroom:D0.now.length<256)(H0:Hp w S O ((jb,.cells #[.P db 0,.string nm,.slice ab B.length cb,.slice ar R.length cr,.I g,.string seg,.slice as_ σ.length cs,.bool sy] 41 (0,0))::diskM db D0 sa0 sk0) [⟨SB,23,.slice ar R.length cr,R⟩,⟨stepS,143,.slice sa0 D0.steps.length sk0,D0.steps⟩] [Rp SB [.slice ab B.length cb] B,Rp SB [.slice as_ σ.length cs] σ,Fz jQ,Rp SB [.slice ax b.length cx] b] w):
 Calls Tryz.prog 15 #[.P jb 0,.slice ax b.length cx] w (Ret fun v w'=>(v=.I 0∧∃(ab':Option Addr)(cb':Nat)(D':DiskD)(sa':Option Addr)(sk':Nat),JL D' nm b [] [] (g+1) ⟨#[]⟩ [] true 0∧DI D'∧Al D' n∧Stp nm D0 D'∧Cp 1 D0 D'∧Hp w S O ((jb,.cells #[.P db 0,.string nm,.slice ab' b.length cb',.slice none (([]:List (List (BitVec 8))).length) 0,.I ((g+1:Nat):Int),.string (⟨#[]⟩:ByteArray),.slice none (([]:List (BitVec 8)).length) 0,.bool true] 41 (0,0))::diskM db D' sa' sk') [⟨SB,23,.slice none (([]:List (List (BitVec 8))).length) 0,([]:List (List (BitVec 8)))⟩,diskW D' sa' sk'] [Rp SB [.slice ab' b.length cb'] b,Rp SB [.slice none (([]:List (BitVec 8)).length) 0] ([]:List (BitVec 8))] w')∨(∃(y4 y5 y6 y7:Value)(D':DiskD)(sa':Option Addr)(sk':Nat),v=.I 70∧Dd D0 D' nm (g+1) (fun B' lo hi=>(B'=B∧R0<+:lo∧hi<+:R)∨(B'=b∧hi=[]))∧Hp w S O ((jb,.cells #[.P db 0,.string nm,.slice ab B.length cb,.slice ar R.length cr,y4,y5,y6,y7] 41 (0,0))::diskM db D' sa' sk') [⟨SB,23,.slice ar R.length cr,R⟩,diskW D' sa' sk'] [Rp SB [.slice ab B.length cb] B] w')):=by
 obtain⟨V,cur,hL,hB,C,hR,hseg,hst,_,_,hVq⟩:=hJ
 refine uS1 Tryz.func15 ?_
 have H:=H0
 refine uR 4 [.c [1,0,0],.c [1,0,1],.c [2]] ?_
 refine qG (sq 0 3) ?_
 refine uP 1 ?_
 have H:=H.frontW 1 rfl
 have H:=H.gat 1 0
 refine uKS (state_go ha.dead ((H.lend (M1:=(_::(diskM _ _ _ _))) (W1:=[_])).pick [] rfl)) ?_
 rintro _ _⟨rfl,H'⟩
 have H:=H.back (M1:=(_::(diskM _ _ _ _))) (W1:=[_]) H'
 have H:=H.ung 1
 have H:Hp w S O (_::(diskM db D0 sa0 sk0)) [_,_] [_,_,_,_] _:=H
 refine uF 1 ?_
 refine uR 7 [.c [2,0,1],.c [3]] ?_
 refine qD ((((b.length:Nat):Int):Int)>4194304) (fun E=>?_) (fun E=>?_)
 ·
  omega
 ·
  refine uR 3 [.c [3,0,0],.c [3,0,1],.c [4]] ?_
  refine qG (sq 0 3) ?_
  refine uP 1 ?_
  have H:=H.gat 1 0
  refine uKS (state_go ha.dead ((H.lend (M1:=(_::(diskM _ _ _ _))) (W1:=[_])).pick [] rfl)) ?_
  rintro _ _⟨rfl,H'⟩
  have H:=H.back (M1:=(_::(diskM _ _ _ _))) (W1:=[_]) H'
  have H:=H.ung 1
  have H:Hp w S O (_::_) [_,_] [_,_,_,_] _:=H
  refine uF 1 ?_
  refine uR 5 [.c [4,0],.c [5]] ?_
  refine qG (sq 0 6) ?_
  refine uP 3 ?_
  refine uV 3 4 (H.cells 0 rfl) ?_
  refine uI ((g:Int)+1) ?_
  refine uF 1 ?_
  refine qR 2 [.c [5,0,0],.c [5,0,1],.c [6]] [(0,.P jb 0),(1,.slice ax b.length cx),(7,.I ((g:Int)+1))] ?_
  refine qG (sq 0 5) ?_
  refine uP 3 ?_
  have H:=H.gat 1 0
  refine uKS (turned_spec (b:=b) (n:=n) hp hd (ha.mono (by omega)) hL hg hb hroom ((H.lend (M1:=(_::(diskM _ _ _ _))) (W1:=[_])).pick [3,2] rfl)) ?_
  rintro _ _(⟨rfl,m,k,l,⟨G,s⟩,j,p,t,r,H'⟩|⟨D,rfl,m,k,l,u,H'⟩)
  ·
   have H:=H.back (M1:=(_::(diskM _ _ _ _))) (W1:=[_]) H'
   have H:=H.ung 1
   have H:Hp w S O (_::(diskM db m k l)) [⟨stepS,143,.slice k m.steps.length l,m.steps⟩,_] [_,_,_,_] _:=H
   have x:m.now.length≤256:=by have:=Cp.now r hd j;omega
   refine uF 1 ?_
   refine uR 6 [.c [6,0,0],.c [6,0,1],.c [7]] ?_
   refine qG (sq 0 4) ?_
   refine uP 2 ?_
   have H:=H.gat 1 0
   refine uKS (jdrop_spec (Dz:=D0) (V:=⟨g+1,G,b,[]⟩) (g:=g+1) (n:=n) hp (p.rdy j) x (fun ns o=>DrS.start j (p.mono (by omega)) s t r o) ((H.lend (M1:=(_::(diskM _ _ _ _))) (W1:=[_])).pick [] rfl)) ?_
   rintro _ _(⟨rfl,e,a,d,y,H'⟩|⟨z,rfl,e,a,d,A,H'⟩)
   ·
    have H:=H.back (M1:=(_::(diskM _ _ _ _))) (W1:=[_]) H'
    have H:=H.ung 1
    have H:Hp w S O (_::(diskM db e a d)) [⟨stepS,143,.slice a e.steps.length d,e.steps⟩,_] [_,_,_,_] _:=H
    refine uF 1 ?_
    refine uR 5 [.c [7,0],.c [8]] ?_
    refine qG (sq 0 17) ?_
    refine uP 7 ?_
    refine qW 3 jb 4 (sq 8 17) (.I ((g:Int)+1)) ((jb,.cells #[.P db 0,.string nm,.slice ab B.length cb,.slice ar R.length cr,.I ((g:Int)+1),.string seg,.slice as_ σ.length cs,.bool sy] 41 (0,0))::(diskM db e a d)) H 0 rfl rfl ?_
    intro _ H
    refine uP 2 ?_
    refine qW 9 jb 5 (sq 11 17) (.string (⟨#[]⟩:ByteArray)) ((jb,.cells #[.P db 0,.string nm,.slice ab B.length cb,.slice ar R.length cr,.I ((g:Int)+1),.string (⟨#[]⟩:ByteArray),.slice as_ σ.length cs,.bool sy] 41 (0,0))::(diskM db e a d)) H 0 rfl rfl ?_
    intro _ H
    refine uP 2 ?_
    refine qW 23 jb 6 (sq 14 17) (.slice none 0 0) ((jb,.cells #[.P db 0,.string nm,.slice ab B.length cb,.slice ar R.length cr,.I ((g:Int)+1),.string (⟨#[]⟩:ByteArray),.slice none 0 0,.bool sy] 41 (0,0))::(diskM db e a d)) H 0 rfl rfl ?_
    intro _ H
    refine uP 2 ?_
    refine qW 4 jb 7 (sq 17 17) (.bool true) ((jb,.cells #[.P db 0,.string nm,.slice ab B.length cb,.slice ar R.length cr,.I ((g:Int)+1),.string (⟨#[]⟩:ByteArray),.slice none 0 0,.bool true] 41 (0,0))::(diskM db e a d)) H 0 rfl rfl ?_
    intro _ H
    refine qF 0 [(0,.P jb 0),(1,.slice ax b.length cx)] ?_
    refine uR 1 [.c [8,0],.c [9]] ?_
    refine qG (sq 0 10) ?_
    refine uP 3 ?_
    have H:=H.ownNil Sb 5
    have H:Hp w S O (_::_) [⟨Sb,5,.slice none 0 0,[]⟩,_,_] [_,_,_,_] _:=H
    refine uA 23 23 1 b H 0 rfl 3 rfl (rfl) (by omega) ?_
    intro f h _ H _
    have H:Hp w S O (_::_) [⟨Sb,5,.slice f b.length h,b⟩,_,_] [_,_,_,_] _:=H
    refine uP 2 ?_
    refine qW 23 jb 2 (sq 7 10) (.slice f b.length h) ((jb,.cells #[.P db 0,.string nm,.slice f b.length h,.slice ar R.length cr,.I ((g:Int)+1),.string (⟨#[]⟩:ByteArray),.slice none 0 0,.bool true] 41 (0,0))::(diskM db e a d)) H 0 rfl rfl ?_
    intro _ H
    refine uP 2 ?_
    refine qW 22 jb 3 (sq 10 10) (.slice none 0 0) ((jb,.cells #[.P db 0,.string nm,.slice f b.length h,.slice none 0 0,.I ((g:Int)+1),.string (⟨#[]⟩:ByteArray),.slice none 0 0,.bool true] 41 (0,0))::(diskM db e a d)) H 0 rfl rfl ?_
    intro _ H
    refine uF 0 ?_
    refine uR 2 [.c [10]] ?_
    refine qT (.I 0) Tryz.func15 ?_
    have H:Hp w S O (_::_) [_,_] [Rp SB [.slice f b.length h] b,_,_,_,_] _:=H.freezeW 0 rfl
    have H:=H.ownNil SB 23
    have H:Hp w S O (_::_) [⟨SB,23,.slice none 0 0,([]:List (List (BitVec 8)))⟩,_,_] [_,_,_,_,_] _:=H
    have H:=H.add (F:=Rp SB [.slice none 0 0] ([]:List (BitVec 8))) Shape.slice_nil
    have H:=H.pick [1,0] rfl
    have H:=H.dropW 2
    have i:=y
    exact⟨_,rfl,.inl ⟨rfl,_,_,e,a,d,JL.fresh (DrS.done hp i),i.di,i.al.mono (Nat.le_add_right _ _),i.stp,i.cp,H⟩⟩
   ·
    have H:=H.back (M1:=(_::(diskM _ _ _ _))) (W1:=[_]) H'
    have H:=H.ung 2
    have H:Hp w S O ((z,.cells #[.I 70] 204 (0,0))::_::_) [_,_] [_,_,_,_] _:=H
    refine uF 1 ?_
    refine uR 4 [.c [6,0,2,0,0],.c [6,0,2,0,1],.c [7]] ?_
    refine qG (sq 0 3) ?_
    refine uP 1 ?_
    refine uKS (jnumber_spec ((H.lend (M1:=[_]) (W1:=[])).pick [2] rfl)) ?_
    rintro _ _⟨rfl,H'⟩
    have H:=H.back (M1:=[_]) (W1:=[]) H'
    have H:Hp w S O (_::_::_) [_,_] [_,_,_,_] _:=H
    refine uF 1 ?_
    refine qT (.I 70) Tryz.func15 ?_
    have H:=H.pick [0] rfl
    have H:=H.frontW 1 rfl
    have H:=H.dropM 0
    exact⟨_,rfl,.inr ⟨_,_,_,_,e,a,d,rfl,(A).mono (Nat.le_refl _) fun B lo hi o=>.inr ⟨o.1,List.prefix_nil.1 o.2.2⟩,H⟩⟩
  ·
   have H:=H.back (M1:=(_::(diskM _ _ _ _))) (W1:=[_]) H'
   have H:=H.ung 2
   have H:Hp w S O ((D,.cells #[.I 70] 204 (0,0))::_::_) [_,_] [_,_,_,_] _:=H
   refine uF 1 ?_
   refine uR 4 [.c [5,0,2,0,0],.c [5,0,2,0,1],.c [6]] ?_
   refine qG (sq 0 3) ?_
   refine uP 1 ?_
   refine uKS (jnumber_spec ((H.lend (M1:=[_]) (W1:=[])).pick [2] rfl)) ?_
   rintro _ _⟨rfl,H'⟩
   have H:=H.back (M1:=[_]) (W1:=[]) H'
   have H:Hp w S O (_::_::_) [_,_] [_,_,_,_] _:=H
   refine uF 1 ?_
   refine qT (.I 70) Tryz.func15 ?_
   have H:=H.pick [0] rfl
   have H:=H.frontW 1 rfl
   have H:=H.dropM 0
   exact⟨_,rfl,.inr ⟨_,_,_,_,m,k,l,rfl,(u).mono (Nat.le_refl _) fun _ _ _ o=>by rw[←hB,←C,←hR];exact o,H⟩⟩
end Go.Proofs.YtdnibpclkhenmaaGreatDoor

namespace Go.Proofs.YtdnibpclkhenmaaGreatDoor
open Go.BX
set_option maxHeartbeats 1000000 in
theorem jopen_spec{S:Nat→Prop}{w:World}{O:List Nat}{db:Nat}{nm:ByteArray}{D0:DiskD}{sa0:Option Addr}{sk0:Nat}{V:VV}{G n:Nat}{P:Bs→List Bs→List Bs→Prop}(hpn:PlainN nm)(hd:DI D0)(ha:Al D0 (n+256))(hpv:PV D0 nm V)(hjs:JS D0 nm G P)(hnl:D0.now.length≤256)(H0:Hp w S O (diskM db D0 sa0 sk0) [⟨stepS,143,.slice sa0 D0.steps.length sk0,D0.steps⟩] [Fz jQ] w):
 Calls Tryz.prog 14 #[.P db 0,.string nm] w (Ret fun v w'=>(∃(jb:Nat)(ab:Option Addr)(cb:Nat)(ar:Option Addr)(cr:Nat)(D':DiskD)(sa':Option Addr)(sk':Nat),v=.tuple #[.P jb 0,.I 0]∧JL D' nm V.B (recsV D0 V) (recsV D0 V) (gV V) ⟨#[]⟩ [] true V.segs.length∧DI D'∧Al D' n∧Stp nm D0 D'∧Cp 1 D0 D'∧Hp w S O ((jb,.cells #[.P db 0,.string nm,.slice ab V.B.length cb,.slice ar (recsV D0 V).length cr,.I ((gV V:Nat):Int),.string (⟨#[]⟩:ByteArray),.slice none (([]:List (BitVec 8)).length) 0,.bool true] 41 (0,0))::diskM db D' sa' sk') [⟨SB,23,.slice ar (recsV D0 V).length cr,recsV D0 V⟩,diskW D' sa' sk'] [Rp SB [.slice ab V.B.length cb] V.B,Rp SB [.slice none (([]:List (BitVec 8)).length) 0] ([]:List (BitVec 8))] w')∨(∃(D':DiskD)(sa':Option Addr)(sk':Nat),v=.tuple #[.pointer none,.I 70]∧Dd D0 D' nm (max G (gV V)) (fun B lo hi=>P B lo hi∨(B=V.B∧recsV D0 V<+:lo∧hi<+:recsV D0 V))∧Hp w S O (diskM db D' sa' sk') [diskW D' sa' sk'] [] w')):=by
 have hp:=hpn.1
 have C:=hp.1
 refine uS1 Tryz.func14 ?_
 have H:=H0
 refine uR 4 [.c [1,0,0],.c [1,0,1],.c [2]] ?_
 refine qG (sq 0 7) ?_
 refine uP 1 ?_
 have H:=H.gat 0 0
 refine uKS ((dSizeNo hd.ok ha.dead hd.noEmpty) ((H.lend (M1:=(diskM _ _ _ _)) (W1:=[_])).pick [] rfl)) ?_
 rintro _ _⟨rfl,H'⟩
 have H:=H.back (M1:=(diskM _ _ _ _)) (W1:=[_]) H'
 have H:=H.ung 0
 have H:Hp w S O ((diskM db D0 sa0 sk0)) [_] [_] _:=H
 refine uF 5 ?_
 refine uR 6 [.c [2,0,0],.c [2,0,1],.c [3]] ?_
 refine qG (sq 0 3) ?_
 refine uP 1 ?_
 refine qK .seq (some 19) (sq 2 3) 50 #[.string nm] (plain_spec (S:=fun _=>True) (by omega)) ?_
 rintro _ _ r⟨_,rfl,s⟩
 have H:=H.ext r
 obtain rfl:=s.2 hpn
 refine uF 1 ?_
 refine uR 4 [.c [3,0,0],.c [3,0,1],.c [4]] ?_
 refine qG (sq 0 2) ?_
 refine uP 1 ?_
 have H:=H.gat 0 0
 refine uKS (dDead ha.dead ((H.lend (M1:=(diskM _ _ _ _)) (W1:=[_])).pick [] rfl)) ?_
 rintro _ _⟨rfl,H'⟩
 have H:=H.back (M1:=(diskM _ _ _ _)) (W1:=[_]) H'
 have H:=H.ung 0
 have H:Hp w S O _ [_] [_] _:=H
 refine uF 0 ?_
 refine uR 3 [.c [4,0],.c [5]] ?_
 refine qG (sq 0 5) ?_
 refine uP 3 ?_
 refine uC #[.P db 0,.string nm,.slice none 0 0,.slice none 0 0,.I 0,.string (⟨#[]⟩:ByteArray),.slice none 0 0,.bool true] 41 H ?_
 intro i _ H
 refine uF 1 ?_
 refine uR 2 [.c [5,0,0],.c [5,0,1],.c [6]] ?_
 refine qG (sq 0 3) ?_
 refine uP 1 ?_
 have H:=H.gat 1 0
 refine uKS (jfound_spec (V:=V) (G:=G) (n:=n) (P:=P) hp hd ha hpv hjs hnl ((H.lend (M1:=(_::(diskM _ _ _ _))) (W1:=[_])).pick [0] rfl)) ?_
 rintro _ _(⟨rfl,d,a,b,e,f,g,h,j,k,l,m,o,H'⟩|⟨p,t,u,x,y,z,A,d,a,b,rfl,q,H'⟩)
 ·
  have H:=H.back (M1:=(_::(diskM _ _ _ _))) (W1:=[_]) H'
  have H:=H.ung 1
  have H:Hp w S O ((i,.cells #[.P db 0,.string nm,.slice e V.B.length f,.slice g (recsV D0 V).length h,.I ((gV V:Nat):Int),.string (⟨#[]⟩:ByteArray),.slice none 0 0,.bool true] 41 (0,0))::(diskM db d a b)) [⟨SB,23,.slice g (recsV D0 V).length h,recsV D0 V⟩,⟨stepS,143,.slice a d.steps.length b,d.steps⟩] [Rp SB [.slice e V.B.length f] V.B,_] _:=H
  refine uF 1 ?_
  refine qR 6 [.c [7]] [(4,.P i 0),(5,.I 0)] ?_
  refine qT (.tuple #[.P i 0,.I 0]) Tryz.func14 ?_
  have H:=H.add (F:=Rp SB [.slice none 0 0] ([]:List (BitVec 8))) Shape.slice_nil
  have H:=H.pick [1,0] rfl
  have hJL:=JL.fresh j
  rw[fixV_hi,show(fixV D0 V).segs.length=V.segs.length from List.length_map ..]at hJL
  exact⟨_,rfl,.inl ⟨_,_,_,_,_,d,a,b,rfl,hJL,k,l,m,o,H⟩⟩
 ·
  have H:=H.back (M1:=(_::(diskM _ _ _ _))) (W1:=[_]) H'
  have H:=H.ung 2
  have H:Hp w S O ((p,.cells #[.I 70] 204 (0,0))::(i,.cells #[.P db 0,.string nm,t,u,x,y,z,A] 41 (0,0))::_) [_] [_] _:=H
  refine uF 1 ?_
  refine uR 4 [.c [5,0,2,0,0],.c [5,0,2,0,1],.c [6]] ?_
  refine qG (sq 0 4) ?_
  refine uP 1 ?_
  refine uKS (jnumber_spec ((H.lend (M1:=[_]) (W1:=[])).pick [0] rfl)) ?_
  rintro _ _⟨rfl,H'⟩
  have H:=H.back (M1:=[_]) (W1:=[]) H'
  have H:Hp w S O (_::_::_) [_] [_] _:=H
  refine uF 2 ?_
  refine qT (.tuple #[.pointer none,.I 70]) Tryz.func14 ?_
  have H:=H.pick [] rfl
  have H:=H.dropM 1
  have H:=H.dropM 0
  exact⟨_,rfl,.inr ⟨d,a,b,rfl,q,H⟩⟩
theorem jopen_arg{S:Nat→Prop}{w:World}{O:List Nat}{db:Nat}{nm:ByteArray}{D0:DiskD}{sa0:Option Addr}{sk0:Nat}(hd:DI D0)(hdd:D0.dead=false)(hs9:nm.size≤140737488355328)(hpn:¬PlainN nm)(H0:Hp w S O (diskM db D0 sa0 sk0) [⟨stepS,143,.slice sa0 D0.steps.length sk0,D0.steps⟩] [] w):
 Calls Tryz.prog 14 #[.P db 0,.string nm] w (Ret fun v w'=>v=.tuple #[.pointer none,.I 2]∧Hp w S O (diskM db D0 sa0 sk0) [⟨stepS,143,.slice sa0 D0.steps.length sk0,D0.steps⟩] [] w'):=by
 refine uS1 Tryz.func14 ?_
 have H:=H0
 refine uR 4 [.c [1,0,0],.c [1,0,1],.c [2]] ?_
 refine qG (sq 0 7) ?_
 refine uP 1 ?_
 have H:=H.gat 0 0
 refine uKS ((dSizeNo hd.ok hdd hd.noEmpty) ((H.lend (M1:=(diskM _ _ _ _)) (W1:=[_])).pick [] rfl)) ?_
 rintro _ _⟨rfl,H'⟩
 have H:=H.back (M1:=(diskM _ _ _ _)) (W1:=[_]) H'
 have H:=H.ung 0
 have H:Hp w S O ((diskM db D0 sa0 sk0)) [_] [] _:=H
 refine uF 5 ?_
 refine uR 6 [.c [2,0,0],.c [2,0,1],.c [3]] ?_
 refine qG (sq 0 3) ?_
 refine uP 1 ?_
 refine uK (plain_spec (S:=fun _=>True) hs9) ?_
 rintro _ _ a⟨b,rfl,d⟩
 have H:=H.ext a
 obtain rfl:b=false:=Bool.eq_false_iff.2 fun e=>hpn (d.1 e)
 refine uF 1 ?_
 refine uR 3 [.c [2,0,1,0,1],.c [3]] ?_
 refine qT (.tuple #[.pointer none,.I 2]) Tryz.func14 ?_
 exact⟨_,rfl,rfl,H⟩
end Go.Proofs.YtdnibpclkhenmaaGreatDoor

namespace Go.Proofs.YtdnibpclkhenmaaGreatDoor
open Go.BX
set_option maxHeartbeats 2000000 in
theorem jappend_spec{S:Nat→Prop}{w:World}{O:List Nat}{jb db g:Nat}{nm seg:ByteArray}{sy:Bool}{B σ:List (BitVec 8)}{R0 R:List (List (BitVec 8))}{ab ar as_:Option Addr}{cb cr cs n q:Nat}{D0:DiskD}{sa0:Option Addr}{sk0:Nat}{r:List (BitVec 8)}{ax:Option Addr}{cx:Nat}(hp:PlainB nm)(hd:DI D0)(ha:Al D0 (n+300000))(hJ:JL D0 nm B R0 R g seg σ sy q)(hg:g<1000000)(hr:r.length≤4194304)(hσ:σ.length+r.length≤3900000)(hRl:R.length≤65536)(hroom:D0.now.length<256)(H0:Hp w S O ((jb,.cells #[.P db 0,.string nm,.slice ab B.length cb,.slice ar R.length cr,.I g,.string seg,.slice as_ σ.length cs,.bool sy] 41 (0,0))::diskM db D0 sa0 sk0) [⟨SB,23,.slice ar R.length cr,R⟩,⟨stepS,143,.slice sa0 D0.steps.length sk0,D0.steps⟩] [Rp SB [.slice ab B.length cb] B,Rp SB [.slice as_ σ.length cs] σ,Fz jQ,Rp SB [.slice ax r.length cx] r] w):
 Calls Tryz.prog 16 #[.P jb 0,.slice ax r.length cx] w (Ret fun v w'=>(v=.I 0∧∃(g':Nat)(seg':ByteArray)(ar':Option Addr)(cr':Nat)(as':Option Addr)(cs':Nat)(D':DiskD)(sa':Option Addr)(sk':Nat),JL D' nm B R0 (R++[r]) g' seg' (σ++frameF r) false q∧g'≤g+1∧DI D'∧Al D' n∧Stp nm D0 D'∧Cp 1 D0 D'∧Dry D0 D'∧Hp w S O ((jb,.cells #[.P db 0,.string nm,.slice ab B.length cb,.slice ar' (R++[r]).length cr',.I g',.string seg',.slice as' (σ++frameF r).length cs',.bool false] 41 (0,0))::diskM db D' sa' sk') [⟨SB,23,.slice ar' (R++[r]).length cr',(R++[r])⟩,diskW D' sa' sk'] [Rp SB [.slice ab B.length cb] B,Rp SB [.slice as' (σ++frameF r).length cs'] (σ++frameF r)] w')∨(∃(y4 y5 y6 y7:Value)(D':DiskD)(sa':Option Addr)(sk':Nat),v=.I 70∧Dd D0 D' nm (g+1) (fun B' lo hi=>B'=B∧R0<+:lo∧hi<+:R++[r])∧Hp w S O ((jb,.cells #[.P db 0,.string nm,.slice ab B.length cb,.slice ar R.length cr,y4,y5,y6,y7] 41 (0,0))::diskM db D' sa' sk') [⟨SB,23,.slice ar R.length cr,R⟩,diskW D' sa' sk'] [Rp SB [.slice ab B.length cb] B] w')):=by
 obtain⟨V,cur,hL,hB,C,hR,hseg,hst,_,_,hVq⟩:=hJ
 have D:1≤gO g cur∧gO g cur≤1000000:=by
  cases cur with
  |none=>exact⟨Nat.succ_pos _,hg⟩
  |some c=>exact⟨hL.lv.segN.2.2,Nat.le_of_lt hg⟩
 have hfr:framesF (hiO cur++[r])=σ++frameF r:=by rw[hst,framesF_app,framesF_one]
 have k:(σ++frameF r).length=σ.length+(r.length+12):=by rw[List.length_append,frame_len]
 have E:=apP (n:=n) hp hL hg hr (by rw[hfr,k];omega) hroom
 rw[hfr]at E
 have Q:ApS D0 nm V cur g r n (σ.length/63) D0:=by rw[hst];exact ApS.start hd (ha.mono (by omega)) hL hr
 have U:=(fform_s hp D.1 D.2).size.1
 refine uS1 Tryz.func16 ?_
 have H:=H0
 refine uR 4 [.c [1,0,0],.c [1,0,1],.c [2]] ?_
 refine qG (sq 0 3) ?_
 refine uP 1 ?_
 have H:=H.frontW 1 rfl
 have H:=H.gat 1 0
 refine uKS (state_go ha.dead ((H.lend (M1:=(_::(diskM _ _ _ _))) (W1:=[_])).pick [] rfl)) ?_
 rintro _ _⟨rfl,H'⟩
 have H:=H.back (M1:=(_::(diskM _ _ _ _))) (W1:=[_]) H'
 have H:=H.ung 1
 have H:Hp w S O (_::(diskM db D0 sa0 sk0)) [_,_] [_,_,_,_] _:=H
 refine uF 1 ?_
 refine uR 6 [.c [2,0,0],.c [2,0,1],.c [3]] ?_
 refine qG (sq 0 11) ?_
 refine uP 4 ?_
 refine uD 20 ((((r.length:Nat):Int):Int)>4194304) (fun h2=>?_) (fun h2=>?_)
 ·
  omega
 ·
  refine uP 3 ?_
  refine uV 22 3 (H.cells 0 rfl) ?_
  refine uF 3 ?_
  refine qD ((((R.length:Nat):Int):Int)>65536) (fun h3=>?_) (fun h3=>?_)
  ·
   omega
  ·
   refine uR 3 [.c [3,0,0],.c [3,0,1],.c [4]] ?_
   refine qG (sq 0 3) ?_
   refine uP 1 ?_
   have H:=H.gat 1 0
   refine uKS (state_go ha.dead ((H.lend (M1:=(_::(diskM _ _ _ _))) (W1:=[_])).pick [] rfl)) ?_
   rintro _ _⟨rfl,H'⟩
   have H:=H.back (M1:=(_::(diskM _ _ _ _))) (W1:=[_]) H'
   have H:=H.ung 1
   have H:Hp w S O (_::_) [_,_] [_,_,_,_] _:=H
   refine uF 1 ?_
   refine qR 5 [.c [4,0],.c [5]] [(0,.P jb 0),(1,.slice ax r.length cx)] ?_
   refine qG (sq 0 7) ?_
   refine uP 1 ?_
   refine uK (frame_spec (xs:=r) (H.rp 3 rfl) (by omega)) ?_
   rintro _ w5-⟨l,p,rfl,H'⟩
   have H:=H.back (M1:=[]) (W1:=[]) H'
   have H:Hp w S O (_::_) [⟨Sb,5,.slice l (frameF r).length p,(frameF r)⟩,_,_] [_,_,_,_] _:=H
   refine uF 5 ?_
   refine uR 2 [.c [5,0,0],.c [5,0,1],.c [6]] ?_
   refine qG (sq 0 5) ?_
   refine uP 3 ?_
   refine uV 9 5 (H.cells 0 rfl) ?_
   refine uF 1 ?_
   refine WK.joinV (α:=Nat) (fun x_ w_=>match x_ with|W=>Hp w S O ((jb,.cells #[.P db 0,.string nm,.slice ab B.length cb,.slice ar R.length cr,.I ((gO g cur:Nat):Int),.string (sN nm (gO g cur)),.slice as_ σ.length cs,.bool sy] 41 (0,0))::(diskM db D0 sa0 sk0)) [⟨Sb,5,.slice l (frameF r).length p,(frameF r)⟩,⟨stepS,143,.slice sa0 D0.steps.length sk0,D0.steps⟩,⟨SB,23,.slice ar R.length cr,R⟩] [Rp SB [.slice ab B.length cb] B,Rp SB [.slice as_ σ.length cs] σ,Fz jQ,Rp SB [.slice ax r.length cx] r] w_∧True) (fun x_=>match x_ with|W=>[(0,.P jb 0),(1,.slice ax r.length cx),(7,.slice l (frameF r).length p)]) [Cq Tryz.prog 16 [6]] (fun F=>?_) ?_
   ·
    refine qE seg.toList ((⟨#[]⟩:ByteArray).toList) (fun u=>?_) (fun u=>?_)
    ·
     have hcur:cur=none:=by
      cases hc:cur with
      |none=>rfl
      |some c=>rw[hseg,hc]at u;exact absurd u (sN_ne nm g)
     refine uR 1 [.c [5,0,1,0,0],.c [5,0,1,0,1],.c [6]] ?_
     refine qG (sq 0 8) ?_
     refine uP 3 ?_
     refine uV 3 4 (H.cells 0 rfl) ?_
     refine uI ((g:Int)+1) ?_
     refine uP 2 ?_
     refine qW 3 jb 4 (sq 8 8) (.I ((g:Int)+1)) ((jb,.cells #[.P db 0,.string nm,.slice ab B.length cb,.slice ar R.length cr,.I ((g:Int)+1),.string seg,.slice as_ σ.length cs,.bool sy] 41 (0,0))::(diskM db D0 sa0 sk0)) H 0 rfl rfl ?_
     intro _ H
     refine uF 0 ?_
     refine qG (sq 0 10) ?_
     refine uP 5 ?_
     refine uV 3 4 (H.cells 0 rfl) ?_
     have J:=H.viewF 2 rfl
     refine uK (jfile_spec (S:=fun _=>True) (kd:=kS) (n:=g+1) (H.viewM 0 rfl (by simp)) J (by omega) hp (.inl rfl)) ?_
     rintro _ _ K rfl
     have H:=H.ext K
     refine qP 2 (sq 9 10) [(0,.P jb 0),(1,.slice ax r.length cx),(7,.slice l (frameF r).length p),(56,.string (sN nm (g+1))),(58,.P jb 5)] ?_
     refine qW 9 jb 5 (sq 10 10) (.string (sN nm (g+1))) ((jb,.cells #[.P db 0,.string nm,.slice ab B.length cb,.slice ar R.length cr,.I ((g:Int)+1),.string (sN nm (g+1)),.slice as_ σ.length cs,.bool sy] 41 (0,0))::(diskM db D0 sa0 sk0)) H 0 rfl rfl ?_
     intro X H
     refine uF 0 ?_
     have H:Hp w S O ((jb,.cells #[.P db 0,.string nm,.slice ab B.length cb,.slice ar R.length cr,.I ((gO g cur:Nat):Int),.string (sN nm (gO g cur)),.slice as_ σ.length cs,.bool sy] 41 (0,0))::(diskM db D0 sa0 sk0)) [⟨Sb,5,.slice l (frameF r).length p,(frameF r)⟩,⟨stepS,143,.slice sa0 D0.steps.length sk0,D0.steps⟩,⟨SB,23,.slice ar R.length cr,R⟩] [Rp SB [.slice ab B.length cb] B,Rp SB [.slice as_ σ.length cs] σ,Fz jQ,Rp SB [.slice ax r.length cx] r] X:=by rw[hcur];exact H
     exact uB (F (0) _ ⟨H,trivial⟩)
    ·
     obtain⟨c,hcur⟩:∃c,cur=some c:=by
      cases hc:cur with
      |none=>exact absurd (by rw[hseg,hc];rfl) u
      |some c=>exact⟨c,rfl⟩
     refine uR 1 [.c [6]] ?_
     have H:Hp w S O ((jb,.cells #[.P db 0,.string nm,.slice ab B.length cb,.slice ar R.length cr,.I ((gO g cur:Nat):Int),.string (sN nm (gO g cur)),.slice as_ σ.length cs,.bool sy] 41 (0,0))::(diskM db D0 sa0 sk0)) [⟨Sb,5,.slice l (frameF r).length p,(frameF r)⟩,⟨stepS,143,.slice sa0 D0.steps.length sk0,D0.steps⟩,⟨SB,23,.slice ar R.length cr,R⟩] [Rp SB [.slice ab B.length cb] B,Rp SB [.slice as_ σ.length cs] σ,Fz jQ,Rp SB [.slice ax r.length cx] r] w5:=by rw[hcur];rw[hseg,hcur]at H;exact H
     exact uB (F (0) _ ⟨H,trivial⟩)
   ·
    rintro W _⟨H,-⟩
    refine uR 1 [.c [6,0],.c [7]] ?_
    refine qG (sq 0 6) ?_
    refine uP 3 ?_
    refine uV 23 6 (H.cells 0 rfl) ?_
    refine uF 2 ?_
    refine uR 1 [.c [7,0],.c [8]] ?_
    refine qG (sq 0 10) ?_
    refine uP 3 ?_
    refine uV 23 6 (H.cells 0 rfl) ?_
    refine qP 2 (sq 6 10) [(0,.P jb 0),(1,.slice ax r.length cx),(7,.slice l (frameF r).length p),(9,.I ((σ.length:Nat):Int)),(67,.slice as_ σ.length cs),(68,.I ((σ.length:Nat):Int)),(69,.I ((σ.length:Nat):Int))] ?_
    refine RW.clip (κ:=.seq) (d:=some 70) (r:=(sq 7 10)) (T:=23) (e:=5) (sh:=Sb) (a:=as_) (len:=σ.length) (cap:=cs) (k1:=.i64) (t1:=((σ.length:Nat):Int)) (k2:=.i64) (t2:=((σ.length:Nat):Int)) (by as_aux_lemma=>kernel_rfl) (by as_aux_lemma=>kernel_rfl) H 1 rfl (by omega) (by omega) ?_
    intro H
    refine uP 1 ?_
    have H:Hp w S O (_::_) [_,_] [Rp SB [.slice l (frameF r).length p] (frameF r),Rp SB [.slice as_ σ.length σ.length] σ,_,_,_,_] _:=H.freezeW 0 rfl
    refine RW.appendC (κ:=.seq) (d:=some 72) (r:=(sq 9 10)) (T:=23) (ty:=23) (e:=5) (m:=1) (by_:=1) (a1:=as_) (l1:=σ.length) (a2:=l) (l2:=(frameF r).length) (c2:=p) (zs:=(σ++(frameF r))) (by as_aux_lemma=>kernel_rfl) (nofun) (by as_aux_lemma=>kernel_rfl) rfl H 1 rfl 0 rfl (by rw[frame_len];omega) (rfl) (by rw[k];omega) ?_
    intro s t _ H
    refine uF 1 ?_
    refine uR 2 [.c [8,0,0],.c [8,0,1],.c [9]] ?_
    refine qG (sq 0 9) ?_
    refine uP 4 ?_
    refine uV 9 5 (H.cells 0 rfl) ?_
    refine uP 2 ?_
    have H:=H.gat 1 0
    refine uKS (jwrite_spec (τ:=(σ++(frameF r))) (fr:=σ.length) E Q rfl (by rw[k];omega) (by rw[k];omega) U ((H.lend (M1:=(_::(diskM _ _ _ _))) (W1:=[_])).pick [0] rfl)) ?_
    rintro _ _(⟨_,L,_,rfl,i,f,h,j,H'⟩|⟨M,rfl,i,f,h,N,H'⟩)
    ·
     have H:=H.back (M1:=(_::(diskM _ _ _ _))) (W1:=[_]) H'
     have H:=H.ung 1
     have H:Hp w S O (_::(diskM db i f h)) [⟨stepS,143,.slice f i.steps.length h,i.steps⟩,_] [Rp SB [.slice s ((σ++(frameF r)).length) t] (σ++(frameF r)),_,_,_,_,_,_] _:=H
     obtain⟨_,Y,Z,b0⟩:=j.done (by rw[hfr];exact L) (by rw[hfr,k];omega)
     refine uF 1 ?_
     refine uR 5 [.c [9,0],.c [10]] ?_
     refine qG (sq 0 9) ?_
     refine uP 5 ?_
     refine qW 23 jb 6 (sq 6 9) (.slice s ((σ++(frameF r)).length) t) ((jb,.cells #[.P db 0,.string nm,.slice ab B.length cb,.slice ar R.length cr,.I ((gO g cur:Nat):Int),.string (sN nm (gO g cur)),.slice s ((σ++(frameF r)).length) t,.bool sy] 41 (0,0))::(diskM db i f h)) H 0 rfl rfl ?_
     intro _ H
     refine uP 2 ?_
     refine qW 4 jb 7 (sq 9 9) (.bool false) ((jb,.cells #[.P db 0,.string nm,.slice ab B.length cb,.slice ar R.length cr,.I ((gO g cur:Nat):Int),.string (sN nm (gO g cur)),.slice s ((σ++(frameF r)).length) t,.bool false] 41 (0,0))::(diskM db i f h)) H 0 rfl rfl ?_
     intro G H
     refine uF 0 ?_
     refine qR 1 [.c [10,0],.c [11]] [(0,.P jb 0),(1,.slice ax r.length cx)] ?_
     refine WK.drawP1 8 [0,1,2,3,5] [(97,.slice ax r.length cx),(95,.P jb 3),(94,.P jb 0),(93,.P jb 0),(92,.P jb 0),(0,.P jb 0),(1,.slice ax r.length cx)] [(4,.qui),(6,.chn),(7,.chn)] [(4,.qui),(6,.chn),(7,.chn),(8,.seq),(9,.seq),(10,.seq),(11,.seq)] Tryz_mixed (by as_aux_lemma=>kernel_rfl) (by as_aux_lemma=>kernel_rfl) (by as_aux_lemma=>kernel_rfl) (by as_aux_lemma=>kernel_rfl) ?_
     have H:=H.draw
     generalize({G with drawn:=G.drawn+1}:World)=d0 at H⊢
     refine uV 22 3 (H.cells 0 rfl) ?_
     refine RW.appendN (κ:=.chn) (d:=some 98) (r:=[(7,.chn),(8,.seq),(9,.seq),(10,.seq),(11,.seq)]) (T:=23) (ty:=23) (e:=5) (m:=1) (by_:=1) (a0:=none) (a2:=ax) (l2:=r.length) (c2:=cx) (by as_aux_lemma=>kernel_rfl) (nofun) (.inl rfl) (by as_aux_lemma=>kernel_rfl) rfl H 6 rfl (by omega) ?_
     intro x y _ H
     refine RW.new (κ:=.chn) (d:=some 99) (r:=[(8,.seq),(9,.seq),(10,.seq),(11,.seq)]) (o:=.cells #[.slice x r.length y] 23 (0,0)) (v:=fun b=>.slice (some ⟨b,0,none⟩) 1 1) (fun b=>by as_aux_lemma=>kernel_rfl) (nofun) H ?_
     intro c0 _ H
     have H:=H.freeze 0 rfl SB ([r]:List (List (BitVec 8))) 1 (by simp[maxLen]) (by first|exact Nat.le_refl _|simp) (EsP.cons (c:=[.slice x r.length y]) (H.rp 0 rfl) EsP.nil)
     have H:Hp w S O (_::_) [_,_] [Rp (Shape.slice SB) [.slice (some ⟨c0,0,none⟩) 1 1] ([r]:List (List (BitVec 8))),Rp SB [.slice x r.length y] r,_,_,_,_,_,_,_] _:=H
     refine uA 22 22 24 (R++([r]:List (List (BitVec 8)))) H 1 rfl 0 rfl (rfl) (by rw[List.length_append];simp only[List.length_cons,List.length_nil];omega) ?_
     intro z A _ H _
     have H:Hp w S O (_::_) [_,⟨SB,23,.slice z ((R++([r]:List (List (BitVec 8)))).length) A,R++([r]:List (List (BitVec 8)))⟩] [_,_,_,_,_,_,_,_,_] _:=H
     refine uP 2 ?_
     refine qW 22 jb 3 [] (.slice z ((R++([r]:List (List (BitVec 8)))).length) A) ((jb,.cells #[.P db 0,.string nm,.slice ab B.length cb,.slice z ((R++([r]:List (List (BitVec 8)))).length) A,.I ((gO g cur:Nat):Int),.string (sN nm (gO g cur)),.slice s ((σ++(frameF r)).length) t,.bool false] 41 (0,0))::(diskM db i f h)) H 0 rfl rfl ?_
     intro _ H
     refine uF 0 ?_
     refine uR 2 [.c [12]] ?_
     refine qT (.I 0) Tryz.func16 ?_
     have H:=H.pick [5,2] rfl
     have H:=H.frontW 1 rfl
     have hJL:=JL.app hVq Y Z b0
     rw[hB,C,hR,hfr]at hJL
     exact⟨_,rfl,.inl ⟨rfl,_,_,_,_,_,_,i,f,h,hJL,gO_le g cur,(j).di,(j).al.mono (by omega),(j).stp,(j).cp,(j).dry,H⟩⟩
    ·
     have H:=H.back (M1:=(_::(diskM _ _ _ _))) (W1:=[_]) H'
     have H:=H.ung 2
     have H:Hp w S O ((M,.cells #[.I 70] 204 (0,0))::_::_) [_,_] [_,_,_,_,_,_,_] _:=H
     refine uF 1 ?_
     refine uR 4 [.c [8,0,2,0,0],.c [8,0,2,0,1],.c [9]] ?_
     refine qG (sq 0 3) ?_
     refine uP 1 ?_
     refine uKS (jnumber_spec ((H.lend (M1:=[_]) (W1:=[])).pick [5] rfl)) ?_
     rintro _ _⟨rfl,H'⟩
     have H:=H.back (M1:=[_]) (W1:=[]) H'
     have H:Hp w S O (_::_::_) [_,_] [_,_,_,_,_,_,_] _:=H
     refine uF 1 ?_
     refine qT (.I 70) Tryz.func16 ?_
     have H:=H.pick [3] rfl
     have H:=H.frontW 1 rfl
     have H:=H.dropM 0
     exact⟨_,rfl,.inr ⟨_,_,_,_,i,f,h,rfl,(N).mono (gO_le g cur) fun _ _ _ h9=>by rw[←hB,←C,←hR,List.append_assoc];exact h9,H⟩⟩
end Go.Proofs.YtdnibpclkhenmaaGreatDoor
