import Derived.Test.YtdnibpclkhenmaaGreatDoorSBxA
import Derived.Test.YtdnibpclkhenmaaGreatDoorSJ7
import Derived.Test.YtdnibpclkhenmaaGreatDoorSBxB
namespace Go.Proofs.YtdnibpclkhenmaaGreatDoor
open Go.BX
set_option maxHeartbeats 1000000 in
theorem jwrite_spec{S:Nat→Prop}{w:World}{O:List Nat}{jb db:Nat}{nm:ByteArray}{x2 x3 x4 x5 x6 x7:Value}{D0:DiskD}{sa0:Option Addr}{sk0:Nat}{x:ByteArray}{τ:List (BitVec 8)}{at_:Option Addr}{ct:Nat}{Pd:Nat→DiskD→Prop}{Qd:DiskD→Prop}{i0 fr:Nat}(hW:WrP x τ Pd Qd)(hP0:Pd i0 D0)(hfr:fr/63=i0)(hfl:fr≤τ.length)(hτ:τ.length≤4000000)(hx:x.size≤64)(H0:Hp w S O ((jb,.cells #[.P db 0,.string nm,x2,x3,x4,x5,x6,x7] 41 (0,0))::diskM db D0 sa0 sk0) [⟨stepS,143,.slice sa0 D0.steps.length sk0,D0.steps⟩] [Rp SB [.slice at_ τ.length ct] τ] w):
 Calls Tryz.prog 59 #[.P jb 0,.string x,.slice at_ τ.length ct,.I fr] w (Ret fun v w'=>(∃i:Nat,τ.length≤63*i∧i≤65000∧v=.nilIface∧∃(D':DiskD)(sa':Option Addr)(sk':Nat),Pd i D'∧Hp w S O ((jb,.cells #[.P db 0,.string nm,x2,x3,x4,x5,x6,x7] 41 (0,0))::diskM db D' sa' sk') [diskW D' sa' sk'] [] w')∨(∃eb:Nat,v=.iface 200 (.P eb 0)∧∃(D':DiskD)(sa':Option Addr)(sk':Nat),Qd D'∧Hp w S O ((eb,.cells #[.I 70] 204 (0,0))::(jb,.cells #[.P db 0,.string nm,x2,x3,x4,x5,x6,x7] 41 (0,0))::diskM db D' sa' sk') [diskW D' sa' sk'] [] w')):=by
 refine uS1 Tryz.func59 ?_
 have H:=H0
 refine uR 4 [.c [1,0,0],.c [1,0,1],.c [2]] ?_
 refine qG (sq 0 3) ?_
 refine uP 1 ?_
 refine RW.pv (κ:=.seq) (d:=some 14) (r:=(sq 2 3)) (v':=.I i0) (v:=.I (IntKind.i64.wrap ((fr:Int).tdiv 63))) (by as_aux_lemma=>kernel_rfl) ((quo_i64 (by decide) (by omega)).trans (congrArg (Value.int .i64) (by omega))) ?_
 refine uF 1 ?_
 refine uR 1 [.c [1,0,1,0],.b 0,.c [2]] ?_
 refine uL (α:=Nat×DiskD×Option Addr×Nat) (g:=59) (p:=[1,0,1,0,0]) (fun(i,D,sa,sk)=>[(0,.P jb 0),(1,.string x),(2,.slice at_ τ.length ct),(9,.I i)]) (fun(i,D,sa,sk)w'=>Hp w S O ((jb,.cells #[.P db 0,.string nm,x2,x3,x4,x5,x6,x7] 41 (0,0))::(diskM db D sa sk)) [⟨stepS,143,.slice sa D.steps.length sk,D.steps⟩] [Rp SB [.slice at_ τ.length ct] τ] w'∧Pd i D∧i≤65000) (fun(i,D,sa,sk)=>65000-i) (i0,D0,sa0,sk0) ⟨H,hP0,by omega⟩ ?_
 rintro⟨i,D,sa,sk⟩_⟨H,⟨hP,hi⟩⟩s
 refine uR 2 [.c [1,0,1,0,0,0,0],.c [1,0,1,0,0,0,1],.c [1,0,1,0,0,1],.l [1,0,1,0,0],.b 0,.c [2]] ?_
 refine qG (sq 0 5) ?_
 refine uP 1 ?_
 refine uI ((i:Int)*63) ?_
 refine uF 3 ?_
 refine qD (((i:Int)*63:Int)<((τ.length:Nat):Int)) (fun C=>?_) (fun C=>?_)
 ·
  refine uR 4 [.c [1,0,1,0,0,1,0,0,0],.c [1,0,1,0,0,1,0,0,1],.b 1,.c [1,0,1,0,0,2],.l [1,0,1,0,0],.b 0,.c [2]] ?_
  refine qG (sq 0 1) ?_
  refine uC ((secC zeroSec).toArray) 140 H ?_
  intro k z H
  refine uF 0 ?_
  refine uR 1 [.c [1,0,1,0,0,1,0,0,1,0],.c [1,0,1,0,0,1,0,0,2],.b 1,.c [1,0,1,0,0,2],.l [1,0,1,0,0],.b 0,.c [2]] ?_
  refine WK.draw1 5 (qs [0,1,2,3,4]) [(0,.qui),(1,.qui),(2,.qui),(3,.qui),(4,.qui),(5,.seq),(6,.seq)] Tryz_mixed (by as_aux_lemma=>kernel_rfl) (by as_aux_lemma=>kernel_rfl) (by as_aux_lemma=>kernel_rfl) ?_
  have H:=H.draw
  generalize({z with drawn:=z.drawn+1}:World)=F at H⊢
  refine rwSlice1 (κ:=.qui) (d:=some 22) (r:=[(1,.qui),(2,.qui),(3,.qui),(4,.qui),(5,.seq),(6,.seq)]) (T:=140) (e:=5) (b:=k) (by as_aux_lemma=>kernel_rfl) (by as_aux_lemma=>kernel_rfl) ?_
  refine uP 2 ?_
  refine uI ((i:Int)*63) ?_
  refine RW.slice (κ:=.qui) (d:=some 26) (r:=[(5,.seq),(6,.seq)]) (T:=23) (e:=5) (sh:=Sb) (a:=at_) (len:=τ.length) (cap:=ct) (zs:=(τ.drop (i*63))) (lv:=(some (.I ((i:Int)*63)))) (hv:=none) (by as_aux_lemma=>kernel_rfl) (by as_aux_lemma=>kernel_rfl) H 0 rfl (i*63) τ.length (.mk (by omega)) .nil (by omega) (by omega) (by rw[List.take_of_length_le (Nat.le_refl _)]) ?_
  intro A H
  refine rwCopy (d:=some 27) (r:=[(6,.seq)]) (T:=23) (T2:=23) (e:=5) (ty:=3) (a2:=A) (sl:=((τ.drop (i*63)).length)) (sc:=(ct-(i*63))) (by as_aux_lemma=>kernel_rfl) (by as_aux_lemma=>kernel_rfl) H 0 rfl ?_
  intro _ H
  have H:Hp w S O ((k,.cells (secC (copyS zeroSec (τ.drop (i*63)))).toArray 140 (0,0))::_::_) [_] [Rp SB [.slice A ((τ.drop (i*63)).length) (ct-(i*63))] (τ.drop (i*63)),_] _:=H
  refine uF 1 ?_
  refine uR 1 [.c [1,0,1,0,0,1,0,0,2,0],.c [1,0,1,0,0,1,0,0,3],.b 1,.c [1,0,1,0,0,2],.l [1,0,1,0,0],.b 0,.c [2]] ?_
  refine qG (sq 0 4) ?_
  refine uP 1 ?_
  refine RW.pv (κ:=.seq) (d:=some 29) (r:=(sq 2 4)) (v':=.int .u8 (((BitVec.ofNat 8 (min (τ.drop (i*63)).length 63)).toNat:Nat):Int)) (v:=.int .u8 (IntKind.u8.wrap (((min (τ.drop (i*63)).length 63:Nat):Int)))) (by as_aux_lemma=>kernel_rfl) (by rw[wrap_bv8,BitVec.ofInt_natCast]) ?_
  refine RW.indexP (κ:=.seq) (d:=some 30) (r:=(sq 3 4)) (T:=140) (e:=5) (N:=64) (m:=1) (b:=k) (o:=0) (o2:=0) (ik:=.i64) (ix:=0) (by as_aux_lemma=>kernel_rfl) (by as_aux_lemma=>kernel_rfl) 0 (by omega) (by omega) (by omega) ?_
  refine qW 5 k 0 (sq 4 4) (.int .u8 (((BitVec.ofNat 8 (min (τ.drop (i*63)).length 63)).toNat:Nat):Int)) ((k,.cells (secC (countS (copyS zeroSec (τ.drop (i*63))) (BitVec.ofNat 8 (min (τ.drop (i*63)).length 63)))).toArray 140 (0,0))::(jb,.cells #[.P db 0,.string nm,x2,x3,x4,x5,x6,x7] 41 (0,0))::(diskM db D sa sk)) H 0 rfl rfl ?_
  intro B H
  rw[show(countS (copyS zeroSec (τ.drop (i*63))) (BitVec.ofNat 8 (min (τ.drop (i*63)).length 63)))=(secB (chunkF τ i))from by rw[Nat.mul_comm i 63];exact sec_made (τ.drop (63*i))]at H
  have H:Hp w S O ((k,.cells (secC (secB (chunkF τ i))).toArray 140 (0,0))::_::_) [_] [_,_] _:=H
  refine qF 0 [(0,.P jb 0),(1,.string x),(2,.slice at_ τ.length ct),(9,.I i),(10,.P k 0)] ?_
  refine uR 1 [.c [1,0,1,0,0,1,0,0,3,0],.c [1,0,1,0,0,1,0,0,4],.b 1,.c [1,0,1,0,0,2],.l [1,0,1,0,0],.b 0,.c [2]] ?_
  refine WK.draw1 7 (qs [0,1,2,3,4,5,6]) [(0,.qui),(1,.qui),(2,.qui),(3,.qui),(4,.qui),(5,.qui),(6,.qui),(7,.seq),(8,.seq)] Tryz_mixed (by as_aux_lemma=>kernel_rfl) (by as_aux_lemma=>kernel_rfl) (by as_aux_lemma=>kernel_rfl) ?_
  have H:=H.draw
  generalize({B with drawn:=B.drawn+1}:World)=E at H⊢
  refine uP 3 ?_
  refine uV 24 0 (H.cells 1 rfl) ?_
  refine uP 2 ?_
  refine rwSlice0 (κ:=.qui) (d:=some 37) (r:=[(7,.seq),(8,.seq)]) (T:=140) (e:=5) (b:=k) (by as_aux_lemma=>kernel_rfl) (by as_aux_lemma=>kernel_rfl) ?_
  have H:=hpFreeze H
  have H:Hp w S O (_::_) [_] [Rp SB [.slice (some ⟨k,0,none⟩) 64 64] (secL (secB (chunkF τ i))),_,_] _:=H
  have H:=H.gat 0 1
  refine RW.callS (d:=some 38) (r:=[(8,.seq)]) (g:=118) (args:=#[.P db 0,.string x,.I i,.slice (some ⟨k,0,none⟩) 64 64]) (by as_aux_lemma=>kernel_rfl) (dWriteN (hW.go i D hP).di.ok (hW.go i D hP).st (hW.go i D hP).dead (hW.go i D hP).hl (by unfold maxLen;omega) (by omega) (xs:=(secL (secB (chunkF τ i)))) (secL_len _) ((H.lend (M1:=(diskM _ _ _ _)) (W1:=[_])).pick [0] rfl)) ?_
  rintro _ _⟨f,h,j,⟨t,rfl,n⟩,H'⟩
  have H:=H.back (M1:=(diskM _ _ _ _)) (W1:=[_]) H'
  have H:=H.ung 0
  have H:Hp w S O (_::(diskM db f h j)) [⟨stepS,143,.slice h f.steps.length j,f.steps⟩] [_,_,_] _:=H
  have n:WriteR D x (i:Int) (secL (secB (chunkF τ i))) t f:=n
  rcases hW.step i D t f hP (by omega) n with⟨rfl,u⟩|⟨rfl,y⟩
  ·
   refine uF 1 ?_
   refine uR 5 [.c [1,0,1,0,0,2],.l [1,0,1,0,0],.b 0,.c [2]] ?_
   refine qG (sq 0 3) ?_
   refine uP 1 ?_
   refine uI ((i:Int)+1) ?_
   refine uF 1 ?_
   have H:=H.pick [2] rfl
   exact uB (s (i+1,f,h,j) _ ⟨H,u,by omega⟩ (by first|omega|(simp only[];omega)))
  ·
   refine uF 1 ?_
   refine uR 4 [.c [1,0,1,0,0,1,0,0,5,0,0],.c [1,0,1,0,0,1,0,0,5,0,1],.b 1,.c [1,0,1,0,0,2],.l [1,0,1,0,0],.b 0,.c [2]] ?_
   refine qG (sq 0 3) ?_
   refine uP 1 ?_
   refine uK (told_spec (S:=Av S w O (idsOf ((jb,.cells #[.P db 0,.string nm,x2,x3,x4,x5,x6,x7] 41 (0,0))::(diskM db f h j)) [⟨stepS,143,.slice h f.steps.length j,f.steps⟩]))) ?_
   rintro _ _-⟨q,rfl,H'⟩
   have H:=H.back (M1:=[]) (W1:=[]) H'
   have H:Hp w S O ((q,.cells #[.I 70] 204 (0,0))::_::_) [_] [_,_,_] _:=H
   refine uF 1 ?_
   refine qT (.iface 200 (.P q 0)) Tryz.func59 ?_
   have H:=H.pick [] rfl
   exact⟨_,rfl,.inr ⟨q,rfl,f,h,j,y,H⟩⟩
 ·
  refine uR 3 [.c [3]] ?_
  refine qT .nilIface Tryz.func59 ?_
  have H:=H.pick [] rfl
  exact⟨_,rfl,.inl ⟨i,by omega,by omega,rfl,D,sa,sk,hP,H⟩⟩
end Go.Proofs.YtdnibpclkhenmaaGreatDoor
