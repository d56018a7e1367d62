import Derived.Test.YtdnibpclkhenmaaGreatDoorSBxA
import Derived.Test.YtdnibpclkhenmaaGreatDoorSG2
namespace Go.Proofs.YtdnibpclkhenmaaGreatDoor
open Go.BX
theorem found_none{S:Nat→Prop}{w:World}{O:List Nat}{db nb sk c sn:Nat}{sv:Option Nat}{sa:Option Addr}{L:NameL}{armed:Bool}{left:Int}{name:ByteArray}(hf:mfind name L=none)(H0:Hp w S O [(db,.cells #[.bool true,.map sv,.map (some nb),.slice sa sn sk,.bool armed,.I left,.bool false] 39 (0,0)),(nb,mapO Value.string ptrV L c)] [] [] w):
 Calls Tryz.prog 103 #[.P db 0,.string name] w (Ret fun v w'=>v=.tuple #[.pointer none,.I 71]∧Hp w S O [(db,.cells #[.bool true,.map sv,.map (some nb),.slice sa sn sk,.bool armed,.I left,.bool false] 39 (0,0)),(nb,mapO Value.string ptrV L c)] [] [] w'):=by
 refine uS1 Tryz.func103 ?_
 have H:=H0
 refine uR 4 [.c [1,0,0],.c [1,0,1],.c [2]] ?_
 refine qG (sq 0 3) ?_
 refine uP 1 ?_
 refine uK (state_spec (S:=fun _=>True) (made:=true) (dead:=false) (H.viewM 0 rfl (by simp))) ?_
 rintro _ _ a rfl
 have H:=H.ext a
 refine uF 1 ?_
 refine uR 6 [.c [2,0,0],.c [2,0,1],.c [3]] ?_
 refine qG (sq 0 11) ?_
 refine uP 3 ?_
 refine uV 36 2 (H.cells 0 rfl) ?_
 refine uP 1 ?_
 refine RW.mapGetF (κ:=.seq) (d:=some 20) (r:=(sq 6 11)) (T:=36) (mk:=Value.string) (vk:=ptrV) (Kt:=9) (E:=139) (z:=none) name true (none) (v:=.tuple #[.pointer none,.bool false]) (by as_aux_lemma=>kernel_rfl) H 1 rfl (KeyOk.str (by as_aux_lemma=>kernel_rfl)) (by as_aux_lemma=>kernel_rfl) (fun w_=>zeroE_run (by as_aux_lemma=>kernel_rfl) w_) (hf) rfl ?_
 refine uF 5 ?_
 refine uR 6 [.c [4]] ?_
 refine qT (.tuple #[.pointer none,.I 71]) Tryz.func103 ?_
 exact⟨_,rfl,rfl,H⟩
theorem found_some{S:Nat→Prop}{w:World}{O:List Nat}{db nb sk c sn:Nat}{sv:Option Nat}{sa:Option Addr}{L:NameL}{armed:Bool}{left:Int}{name:ByteArray}{p:Nat}(hf:mfind name L=some (some p))(H0:Hp w S O [(db,.cells #[.bool true,.map sv,.map (some nb),.slice sa sn sk,.bool armed,.I left,.bool false] 39 (0,0)),(nb,mapO Value.string ptrV L c)] [] [] w):
 Calls Tryz.prog 103 #[.P db 0,.string name] w (Ret fun v w'=>v=.tuple #[.P p 0,.I 0]∧Hp w S O [(db,.cells #[.bool true,.map sv,.map (some nb),.slice sa sn sk,.bool armed,.I left,.bool false] 39 (0,0)),(nb,mapO Value.string ptrV L c)] [] [] w'):=by
 refine uS1 Tryz.func103 ?_
 have H:=H0
 refine uR 4 [.c [1,0,0],.c [1,0,1],.c [2]] ?_
 refine qG (sq 0 3) ?_
 refine uP 1 ?_
 refine uK (state_spec (S:=fun _=>True) (made:=true) (dead:=false) (H.viewM 0 rfl (by simp))) ?_
 rintro _ _ a rfl
 have H:=H.ext a
 refine uF 1 ?_
 refine uR 6 [.c [2,0,0],.c [2,0,1],.c [3]] ?_
 refine qG (sq 0 11) ?_
 refine uP 3 ?_
 refine uV 36 2 (H.cells 0 rfl) ?_
 refine uP 1 ?_
 refine RW.mapGetF (κ:=.seq) (d:=some 20) (r:=(sq 6 11)) (T:=36) (mk:=Value.string) (vk:=ptrV) (Kt:=9) (E:=139) (z:=none) name true ((some (some p))) (v:=.tuple #[.P p 0,.bool true]) (by as_aux_lemma=>kernel_rfl) H 1 rfl (KeyOk.str (by as_aux_lemma=>kernel_rfl)) (by as_aux_lemma=>kernel_rfl) (fun w_=>zeroE_run (by as_aux_lemma=>kernel_rfl) w_) (hf) rfl ?_
 refine uF 5 ?_
 refine uR 5 [.c [2,0,2,0,1],.c [3]] ?_
 refine qT (.tuple #[.P p 0,.I 0]) Tryz.func103 ?_
 exact⟨_,rfl,rfl,H⟩
theorem size_none{S:Nat→Prop}{w:World}{O:List Nat}{db nb sk c sn:Nat}{sv:Option Nat}{sa:Option Addr}{L:NameL}{armed:Bool}{left:Int}{name:ByteArray}(hf:mfind name L=none)(H0:Hp w S O [(db,.cells #[.bool true,.map sv,.map (some nb),.slice sa sn sk,.bool armed,.I left,.bool false] 39 (0,0)),(nb,mapO Value.string ptrV L c)] [] [] w):
 Calls Tryz.prog 49 #[.P db 0,.string name] w (Ret fun v w'=>v=.tuple #[.I 0,.I 71]∧Hp w S O [(db,.cells #[.bool true,.map sv,.map (some nb),.slice sa sn sk,.bool armed,.I left,.bool false] 39 (0,0)),(nb,mapO Value.string ptrV L c)] [] [] w'):=by
 refine uS1 Tryz.func49 ?_
 have H:=H0
 refine uR 3 [.c [1,0],.c [2]] ?_
 refine qG (sq 0 8) ?_
 refine uP 2 ?_
 refine uKS (found_none hf ((H.lend (M1:=[_,_]) (W1:=[])).pick [] rfl)) ?_
 rintro _ _⟨rfl,H'⟩
 have H:=H.back (M1:=[_,_]) (W1:=[]) H'
 have H:Hp w S O [_,_] [] [] _:=H
 refine uF 5 ?_
 refine uR 6 [.c [2,0,1,0,1],.c [3]] ?_
 refine qT (.tuple #[.I 0,.I 71]) Tryz.func49 ?_
 exact⟨_,rfl,rfl,H⟩
theorem size_some{S:Nat→Prop}{w:World}{O:List Nat}{db nb sk c sn:Nat}{sv:Option Nat}{sa:Option Addr}{L:NameL}{armed:Bool}{left:Int}{name:ByteArray}{p s n:Nat}{size:Int}(hf:mfind name L=some (some p))(H0:Hp w S O [(db,.cells #[.bool true,.map sv,.map (some nb),.slice sa sn sk,.bool armed,.I left,.bool false] 39 (0,0)),(nb,mapO Value.string ptrV L c),(p,.cells #[.map (some s),.map (some n),.I size] 147 (0,0))] [] [] w):
 Calls Tryz.prog 49 #[.P db 0,.string name] w (Ret fun v w'=>v=.tuple #[.I size,.I 0]∧Hp w S O [(db,.cells #[.bool true,.map sv,.map (some nb),.slice sa sn sk,.bool armed,.I left,.bool false] 39 (0,0)),(nb,mapO Value.string ptrV L c),(p,.cells #[.map (some s),.map (some n),.I size] 147 (0,0))] [] [] w'):=by
 refine uS1 Tryz.func49 ?_
 have H:=H0
 refine uR 3 [.c [1,0],.c [2]] ?_
 refine qG (sq 0 8) ?_
 refine uP 2 ?_
 refine uKS (found_some hf ((H.lend (M1:=[_,_]) (W1:=[])).pick [] rfl)) ?_
 rintro _ _⟨rfl,H'⟩
 have H:=H.back (M1:=[_,_]) (W1:=[]) H'
 have H:Hp w S O [_,_,_] [] [] _:=H
 refine uF 5 ?_
 refine uR 6 [.c [3,0],.c [4]] ?_
 refine qG (sq 0 6) ?_
 refine uP 3 ?_
 refine uV 3 2 (H.cells 2 rfl) ?_
 refine uF 2 ?_
 refine qT (.tuple #[.I size,.I 0]) Tryz.func49 ?_
 exact⟨_,rfl,rfl,H⟩
theorem secOwn{w0 w:World}{S:Nat→Prop}{O:List Nat}{M:Heap}{W:List OwnS}{G:List Fact}{b:Nat}{T:TypeId}{x:Sec}(H:Hp w0 S O ((b,.cells (secC x).toArray T (0,0))::M) W G w):
 Hp w0 S O M (⟨Sb,T,.slice (some ⟨b,0,none⟩) 64 64,secL x⟩::W) G w:=by
 have h:=H.toOwn (sh:=Sb) (xs:=secL x) (cap:=64) (by simp[secC_len,Shape.bv]) (by rw[secL_len];exact Nat.le_refl _) (by simp[maxLen]) (fun v hv=>secC_ones x v (List.mem_of_mem_take hv)) (fun j y hy=>by
  have hj:j<64:=by have:=(List.getElem?_eq_some_iff.1 hy).1;rwa[secL_len]at this
  have e:y=x j:=by simpa[secL,hj]using hy.symm
  subst e
  show((secC x).drop (j*1)).take 1=[.int .u8 (((x j).toNat:Nat): Int)]
  rw[Nat.mul_one]
  apply List.ext_getElem
  · simp[secC_len]; omega
  · intro i _ a
    simp at a
    subst a
    simp[secC, bcell])
 rw[secL_len]at h
 exact h
theorem read_some{S:Nat→Prop}{w:World}{O:List Nat}{db nb sk c sn:Nat}{sv:Option Nat}{sa:Option Addr}{L:NameL}{armed:Bool}{left:Int}{name:ByteArray}{p s n yc:Nat}{Y:List (Int×Sec×Nat)}{size:Int}(hf:mfind name L=some (some p)){at_:Int}(hat:0≤at_∧at_<size)(H0:Hp w S O [(db,.cells #[.bool true,.map sv,.map (some nb),.slice sa sn sk,.bool armed,.I left,.bool false] 39 (0,0)),(nb,mapO Value.string ptrV L c),(p,.cells #[.map (some s),.map (some n),.I size] 147 (0,0)),(n,mapO (Value.int .i64) secVal Y yc)] [] [] w):
 Calls Tryz.prog 159 #[.P db 0,.string name,.I at_] w (Ret fun v w'=>∃(a':Option Addr)(c':Nat),v=.tuple #[.slice a' (secL ((mfind at_ Y).getD zeroSec)).length c',.I 0]∧Hp w S O [(db,.cells #[.bool true,.map sv,.map (some nb),.slice sa sn sk,.bool armed,.I left,.bool false] 39 (0,0)),(nb,mapO Value.string ptrV L c),(p,.cells #[.map (some s),.map (some n),.I size] 147 (0,0)),(n,mapO (Value.int .i64) secVal Y yc)] [⟨Sb,5,.slice a' (secL ((mfind at_ Y).getD zeroSec)).length c',(secL ((mfind at_ Y).getD zeroSec))⟩] [] w'):=by
 refine uS1 Tryz.func159 ?_
 have H:=H0
 refine uR 3 [.c [1,0],.c [2]] ?_
 refine qG (sq 0 8) ?_
 refine uP 2 ?_
 refine uKS (found_some hf ((H.lend (M1:=[_,_]) (W1:=[])).pick [] rfl)) ?_
 rintro _ _⟨rfl,H'⟩
 have H:=H.back (M1:=[_,_]) (W1:=[]) H'
 have H:Hp w S O [_,_,_,_] [] [] _:=H
 refine uF 5 ?_
 refine uR 7 [.c [3,0,0],.c [3,0,1],.c [4]] ?_
 refine qG (sq 0 10) ?_
 refine uP 3 ?_
 refine uD 23 ((at_:Int)<0) (fun h=>?_) (fun h=>?_)
 ·
  omega
 ·
  refine uP 4 ?_
  refine uV 3 2 (H.cells 2 rfl) ?_
  refine uF 2 ?_
  refine qD ((at_:Int)≥size) (fun i=>?_) (fun i=>?_)
  ·
   omega
  ·
   refine uR 2 [.c [4,0],.c [5]] ?_
   refine qG (sq 0 8) ?_
   refine uP 3 ?_
   refine uV 145 1 (H.cells 2 rfl) ?_
   refine uP 1 ?_
   refine RW.mapGet (κ:=.seq) (d:=some 36) (r:=(sq 6 8)) (T:=145) (mk:=(Value.int .i64)) (vk:=secVal) (Kt:=3) (E:=141) (z:=zeroSec) at_ false (by as_aux_lemma=>kernel_rfl) H 3 rfl (KeyOk.int (by as_aux_lemma=>kernel_rfl)) (by as_aux_lemma=>kernel_rfl) (fun w_=>zeroE_run (by as_aux_lemma=>kernel_rfl) w_) ?_
   refine uC ((secC zeroSec).toArray) 141 H ?_
   intro f _ H
   refine uW 141 0 (secC ((mfind at_ Y).getD zeroSec)).toArray H 0 rfl ?_
   intro _ H
   refine qF 0 [(10,.P f 0)] ?_
   refine uR 1 [.c [5,0],.c [6]] ?_
   refine qG (sq 0 2) ?_
   refine RW.makeW Sb (κ:=.seq) (d:=some 37) (r:=(sq 1 2)) (T:=23) (e:=5) (by_:=1) (v0:=.int .u8 0) (0#8:BitVec 8) (kl:=.i64) (kc:=.i64) (lv:=64) (cv:=64) (by as_aux_lemma=>kernel_rfl) (nofun) (by as_aux_lemma=>kernel_rfl) rfl H 64 64 (by omega) (by omega) (by omega) (by omega) (by omega) (fun _ _=>rfl) ?_
   intro g _ H
   have H:Hp w S O [_,_,_,_,_] [⟨Sb,5,.slice (some ⟨g,0,none⟩) 64 64,(List.replicate 64 (0#8:BitVec 8))⟩] [] _:=H
   refine uF 1 ?_
   refine uR 1 [.c [6,0],.c [7]] ?_
   refine qG (sq 0 3) ?_
   refine uP 1 ?_
   have H:=secOwn H
   have H:Hp w S O [_,_,_,_] [⟨Sb,141,.slice (some ⟨f,0,none⟩) 64 64,(secL ((mfind at_ Y).getD zeroSec))⟩,_] [] _:=H
   refine RW.sliceP (κ:=.seq) (d:=some 39) (r:=(sq 2 3)) (T:=141) (e:=5) (N:=64) (m:=1) (b:=f) (hv:=none) (by as_aux_lemma=>kernel_rfl) (by as_aux_lemma=>kernel_rfl) H 64 .nil (by omega) (by rw[secL_len]) rfl rfl (by decide) ?_
   intro H
   have H:Hp w S O [_,_,_,_] [⟨Sb,141,.slice (some ⟨f,0,none⟩) 64 64,((secL ((mfind at_ Y).getD zeroSec)).take 64)⟩,_] [] _:=H
   have H:=H.reW (ys:=(secL ((mfind at_ Y).getD zeroSec))) (by rw[List.take_of_length_le (by rw[secL_len];exact Nat.le_refl _)])
   have H:Hp w S O [_,_,_,_] [_,_] [] _:=H
   have H:Hp w S O [_,_,_,_] [_] [Rp SB [.slice (some ⟨f,0,none⟩) 64 64] (secL ((mfind at_ Y).getD zeroSec))] _:=H.freezeW 0 rfl
   refine RW.copyW (d:=some 40) (r:=(sq 3 3)) (T:=23) (T2:=23) (e:=5) (ty:=3) (m:=1) (zs:=(secL ((mfind at_ Y).getD zeroSec))) (a:=(some ⟨g,0,none⟩)) (dl:=64) (dc:=64) (a2:=(some ⟨f,0,none⟩)) (sl:=64) (sc:=64) (by as_aux_lemma=>kernel_rfl) (by as_aux_lemma=>kernel_rfl) rfl H 0 rfl (by simp) (by rw[List.length_replicate,secL_len,List.drop_eq_nil_of_le (by rw[List.length_replicate];exact Nat.le_refl _),List.append_nil,List.take_of_length_le (by rw[secL_len];exact Nat.le_refl _)]) ?_
   intro _ H
   have H:Hp w S O [_,_,_,_] [⟨Sb,5,.slice (some ⟨g,0,none⟩) 64 64,(secL ((mfind at_ Y).getD zeroSec))⟩] [_] _:=H
   refine uF 0 ?_
   refine uR 2 [.c [8]] ?_
   refine qT (.tuple #[.slice (some ⟨g,0,none⟩) 64 64,.I 0]) Tryz.func159 ?_
   have H:=H.pick [] rfl
   exact⟨_,rfl,_,_,rfl,H⟩
theorem read_none{S:Nat→Prop}{w:World}{O:List Nat}{db nb sk c sn:Nat}{sv:Option Nat}{sa:Option Addr}{L:NameL}{armed:Bool}{left:Int}{name:ByteArray}(hf:mfind name L=none)(at_:Int)(H0:Hp w S O [(db,.cells #[.bool true,.map sv,.map (some nb),.slice sa sn sk,.bool armed,.I left,.bool false] 39 (0,0)),(nb,mapO Value.string ptrV L c)] [] [] w):
 Calls Tryz.prog 159 #[.P db 0,.string name,.I at_] w (Ret fun v w'=>v=.tuple #[.slice none 0 0,.I 71]∧Hp w S O [(db,.cells #[.bool true,.map sv,.map (some nb),.slice sa sn sk,.bool armed,.I left,.bool false] 39 (0,0)),(nb,mapO Value.string ptrV L c)] [] [] w'):=by
 refine uS1 Tryz.func159 ?_
 have H:=H0
 refine uR 3 [.c [1,0],.c [2]] ?_
 refine qG (sq 0 8) ?_
 refine uP 2 ?_
 refine uKS (found_none hf ((H.lend (M1:=[_,_]) (W1:=[])).pick [] rfl)) ?_
 rintro _ _⟨rfl,H'⟩
 have H:=H.back (M1:=[_,_]) (W1:=[]) H'
 have H:Hp w S O [_,_] [] [] _:=H
 refine uF 5 ?_
 refine uR 6 [.c [2,0,1,0,1],.c [3]] ?_
 refine qT (.tuple #[.slice none 0 0,.I 71]) Tryz.func159 ?_
 exact⟨_,rfl,rfl,H⟩
theorem read_out{S:Nat→Prop}{w:World}{O:List Nat}{db nb sk c sn:Nat}{sv:Option Nat}{sa:Option Addr}{L:NameL}{armed:Bool}{left:Int}{name:ByteArray}{p s n:Nat}{size:Int}(hf:mfind name L=some (some p)){at_:Int}(hat:at_<0∨size≤at_)(H0:Hp w S O [(db,.cells #[.bool true,.map sv,.map (some nb),.slice sa sn sk,.bool armed,.I left,.bool false] 39 (0,0)),(nb,mapO Value.string ptrV L c),(p,.cells #[.map (some s),.map (some n),.I size] 147 (0,0))] [] [] w):
 Calls Tryz.prog 159 #[.P db 0,.string name,.I at_] w (Ret fun v w'=>v=.tuple #[.slice none 0 0,.I 2]∧Hp w S O [(db,.cells #[.bool true,.map sv,.map (some nb),.slice sa sn sk,.bool armed,.I left,.bool false] 39 (0,0)),(nb,mapO Value.string ptrV L c),(p,.cells #[.map (some s),.map (some n),.I size] 147 (0,0))] [] [] w'):=by
 refine uS1 Tryz.func159 ?_
 have H:=H0
 refine uR 3 [.c [1,0],.c [2]] ?_
 refine qG (sq 0 8) ?_
 refine uP 2 ?_
 refine uKS (found_some hf ((H.lend (M1:=[_,_]) (W1:=[])).pick [] rfl)) ?_
 rintro _ _⟨rfl,H'⟩
 have H:=H.back (M1:=[_,_]) (W1:=[]) H'
 have H:Hp w S O [_,_,_] [] [] _:=H
 refine uF 5 ?_
 refine uR 7 [.c [3,0,0],.c [3,0,1],.c [4]] ?_
 refine qG (sq 0 10) ?_
 refine uP 3 ?_
 refine uD 23 ((at_:Int)<0) (fun a=>?_) (fun a=>?_)
 ·
  refine uF 7 ?_
  refine uR 3 [.c [3,0,1,0,1],.c [4]] ?_
  refine qT (.tuple #[.slice none 0 0,.I 2]) Tryz.func159 ?_
  exact⟨_,rfl,rfl,H⟩
 ·
  refine uP 4 ?_
  refine uV 3 2 (H.cells 2 rfl) ?_
  refine uF 2 ?_
  refine qD ((at_:Int)≥size) (fun b=>?_) (fun b=>?_)
  ·
   refine uR 2 [.c [3,0,1,0,1],.c [4]] ?_
   refine qT (.tuple #[.slice none 0 0,.I 2]) Tryz.func159 ?_
   exact⟨_,rfl,rfl,H⟩
  ·
   omega
end Go.Proofs.YtdnibpclkhenmaaGreatDoor
