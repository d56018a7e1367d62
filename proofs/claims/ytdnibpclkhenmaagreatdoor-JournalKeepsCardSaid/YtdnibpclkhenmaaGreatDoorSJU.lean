import Derived.Test.YtdnibpclkhenmaaGreatDoorSBxA
import Derived.Test.YtdnibpclkhenmaaGreatDoorSJT
import Derived.Test.YtdnibpclkhenmaaGreatDoorSJM
namespace Go.Proofs.YtdnibpclkhenmaaGreatDoor
open Go.BX
set_option maxHeartbeats 1000000 in
theorem again_spec{S:Nat→Prop}{w:World}{O:List Nat}{bk db:Nat}{D0:DiskD}{sa0:Option Addr}{sk0 n m q:Nat}{B b t:List (BitVec 8)}{R R0 L:List (List (BitVec 8))}{torn:Bool}{P:Bs→List Bs→List Bs→Prop}{Q:Bs→List Bs→Prop}{aB aR a1 a0 al at_:Option Addr}{cB cR c1 c0 cl ct:Nat}(hd:DI D0)(ha:Al D0 (n+256))(hna:D0.armed=false)(hO:OpQ D0 (⟨#[106]⟩:ByteArray) m q P Q)(hcap:Cap D0 m)(hm:m≤256)(hb:∀B R,Q B R→B.length≤4194304∧R.length≤m+1∧∀r∈R,r.length≤4194304)(hmay:∀B R,Q B R→mayP b t R0 L torn B R)(hRl:R.length≤1000)(hLl:L.length≤1000)(hR0l:R0.length≤1000)(H0:Hp w S O ((bk,.cells #[.slice aB B.length cB,.slice aR R.length cR,.slice a1 b.length c1,.slice a0 R0.length c0,.slice al L.length cl,.bool torn,.slice at_ t.length ct] 50 (0,0))::diskM db D0 sa0 sk0) [⟨SB,23,.slice aR R.length cR,R⟩,⟨SB,23,.slice al L.length cl,L⟩,⟨stepS,143,.slice sa0 D0.steps.length sk0,D0.steps⟩] [Rp SB [.slice aB B.length cB] B,Rp SB [.slice a1 b.length c1] b,Rp SB [.slice at_ t.length ct] t,Rp (Shape.slice SB) [.slice a0 R0.length c0] R0,Fz jQ] w):
 Calls Tryz.prog 68 #[.P db 0,.P bk 0,.bool true] w (Ret fun v w'=>∃(jb:Nat)(B':Bs)(R':List Bs)(g':Nat)(ab':Option Addr)(cb':Nat)(ar':Option Addr)(cr':Nat)(aB':Option Addr)(cB':Nat)(aR':Option Addr)(cR':Nat)(a0':Option Addr)(c0':Nat)(D':DiskD)(sa':Option Addr)(sk':Nat),v=.tuple #[.P jb 0,.bool true]∧JW D' (⟨#[106]⟩:ByteArray) B' R' R' g' ⟨#[]⟩ [] true n (m+1) 0 q (m+1)∧D'.armed=false∧Hp w S O ((jb,.cells #[.P db 0,.string (⟨#[106]⟩:ByteArray),.slice ab' B'.length cb',.slice ar' R'.length cr',.I g',.string (⟨#[]⟩:ByteArray),.slice none (([]:List (BitVec 8)).length) 0,.bool true] 41 (0,0))::(bk,.cells #[.slice aB' B'.length cB',.slice aR' R'.length cR',.slice aB' B'.length cB',.slice a0' R'.length c0',.slice none (([]:List (List (BitVec 8))).length) 0,.bool false,.slice at_ t.length ct] 50 (0,0))::diskM db D' sa' sk') [⟨SB,23,.slice ar' R'.length cr',R'⟩,⟨SB,23,.slice aR' R'.length cR',R'⟩,⟨SB,23,.slice none (([]:List (List (BitVec 8))).length) 0,([]:List (List (BitVec 8)))⟩,diskW D' sa' sk'] [Rp SB [.slice ab' B'.length cb'] B',Rp SB [.slice none (([]:List (BitVec 8)).length) 0] ([]:List (BitVec 8)),Rp SB [.slice aB' B'.length cB'] B',Rp SB [.slice aB' B'.length cB'] B',Rp SB [.slice at_ t.length ct] t,Rp (Shape.slice SB) [.slice a0' R'.length c0'] R'] w'):=by
 refine uS1 Tryz.func68 ?_
 have H:=H0
 refine uR 3 [.c [1,0],.c [2]] ?_
 refine qG (sq 0 7) ?_
 refine uP 1 ?_
 have H:=H.frontW 2 rfl
 have H:=H.gat 0 1
 refine uKS (jopen_law (n:=n) (m:=m) (q:=q) (c:=m) plainJ hd ha hO hcap (by omega) (hb) ((H.lend (M1:=(diskM _ _ _ _)) (W1:=[_])).pick [4] rfl)) ?_
 rintro _ _(⟨k,d,a,J,u,x,y,z,h,e,f,rfl,l,g,F,H'⟩|⟨h,e,f,rfl,_,G,H'⟩)
 rotate_left
 ·exact absurd (G) (by rw[hna];nofun)
 have H:=H.back (M1:=(diskM _ _ _ _)) (W1:=[_]) H'
 have H:=H.ung 1
 have H:Hp w S O ((k,.cells #[.P db 0,.string (⟨#[106]⟩:ByteArray),.slice u d.length x,.slice y a.length z,.I J,.string (⟨#[]⟩:ByteArray),.slice none (([]:List (BitVec 8)).length) 0,.bool true] 41 (0,0))::_::(diskM db h e f)) [⟨SB,23,.slice y a.length z,a⟩,⟨stepS,143,.slice e h.steps.length f,h.steps⟩,_,_] [Rp SB [.slice u d.length x] d,_,_,_,_,_,_] _:=H
 have s:=F.arm.trans hna
 refine uF 5 ?_
 refine uR 10 [.c [3,0,1,0,0],.c [3,0,1,0,1],.c [4]] ?_
 refine qG (sq 0 9) ?_
 refine uP 3 ?_
 refine uKS (jbase_spec g.bl ((H.lend (M1:=[_]) (W1:=[])).pick [0] rfl)) ?_
 rintro _ _⟨i,j,rfl,H'⟩
 have H:=H.back (M1:=[_]) (W1:=[]) H'
 have H:Hp w S O (_::_::_) [⟨Sb,5,.slice i d.length j,d⟩,_,_,_,_] [_,_,_,_,_,_,_] _:=H
 refine uP 1 ?_
 have H:=H.frontW 1 rfl
 refine uKS (jrecs_spec (Nat.le_trans g.rl (by omega)) g.rb ((H.lend (M1:=[_]) (W1:=[_])).pick [] rfl)) ?_
 rintro _ _⟨A,C,rfl,H'⟩
 have H:=H.back (M1:=[_]) (W1:=[_]) H'
 have H:Hp w S O (_::_::_) [⟨SB,23,.slice A a.length C,a⟩,_,_,_,_,_] [_,_,_,_,_,_,_] _:=H
 have H:Hp w S O (_::_::_) [_,_,_,_,_] [Rp SB [.slice i d.length j] d,_,_,_,_,_,_,_] _:=H.freezeW 2 rfl
 have H:Hp w S O (_::_::_) [_,_,_,_] [Rp (Shape.slice SB) [.slice A a.length C] a,_,_,_,_,_,_,_,_] _:=H.freezeW 0 rfl
 have H:=H.frontM 1 rfl
 have H:=H.frontW 3 rfl
 have H:=H.frontW 3 rfl
 refine uKS (bk_found (by omega) (by omega) (hmay _ _ l) (by omega) (Nat.le_trans (hb _ _ l).2.1 (by omega)) ((H.lend (M1:=[_]) (W1:=[_,_])).pick [4,5,6,7,1,0] rfl)) ?_
 rintro _ _⟨rfl,o,p,D,E,H'⟩
 have H:=H.back (M1:=[_]) (W1:=[_,_]) H'
 have H:Hp w S O ((bk,.cells #[.slice i d.length j,.slice o a.length p,.slice i d.length j,.slice D a.length E,.slice none (([]:List (List (BitVec 8))).length) 0,.bool false,.slice at_ t.length ct] 50 (0,0))::_::_) [⟨SB,23,.slice o a.length p,a⟩,_,_,_] [_,_,_,Rp (Shape.slice SB) [.slice D a.length E] a,_,_,_,_,_,_,_,_,_] _:=H
 refine uF 2 ?_
 refine qT (.tuple #[.P k 0,.bool true]) Tryz.func68 ?_
 have H:=H.pick [6,7,0,0,2,3] rfl
 have H:=H.frontM 1 rfl
 have H:=H.frontW 3 rfl
 have H:=H.frontW 2 rfl
 have H:=H.frontW 2 rfl
 have H:=H.frontW 3 rfl
 exact⟨_,rfl,k,_,_,_,_,_,_,_,_,_,_,_,_,_,h,e,f,rfl,g,s,H⟩
end Go.Proofs.YtdnibpclkhenmaaGreatDoor
