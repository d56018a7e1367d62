import Derived.Test.YtdnibpclkhenmaaGreatDoorSJD
import Derived.Test.YtdnibpclkhenmaaGreatDoorSJK
import Derived.Test.YtdnibpclkhenmaaGreatDoorSP0
import Derived.Test.YtdnibpclkhenmaaGreatDoorSH2
namespace Go.Proofs.YtdnibpclkhenmaaGreatDoor
open Go.BX
theorem jopen_law{S:Nat→Prop}{w:World}{O:List Nat}{db:Nat}{nm:ByteArray}{D0:DiskD}{sa0:Option Addr}{sk0 n m q c:Nat}{P:Bs→List Bs→List Bs→Prop}{Q:Bs→List Bs→Prop}(hpn:PlainN nm)(hd:DI D0)(ha:Al D0 (n+256))(hO:OpQ D0 nm m q P Q)(hcap:Cap D0 c)(hm:c≤256)(hb:∀B R,Q B R→B.length≤4194304∧R.length≤m+1∧∀r∈R,r.length≤4194304)(H0:Hp w S O (diskM db D0 sa0 sk0) [diskW D0 sa0 sk0] [Fz jQ] w):
 Calls Tryz.prog 14 #[.P db 0,.string nm] w (Ret fun v w'=>(∃(jb:Nat)(B:Bs)(R:List Bs)(g:Nat)(ab:Option Addr)(cb:Nat)(ar:Option Addr)(cr:Nat)(D':DiskD)(sa':Option Addr)(sk':Nat),v=.tuple #[.P jb 0,.I 0]∧Q B R∧JW D' nm B R R g ⟨#[]⟩ [] true n (m+1) 0 q (c+1)∧Stp nm D0 D'∧Hp w S O ((jb,.cells #[.P db 0,.string nm,.slice ab B.length cb,.slice ar R.length cr,.I g,.string (⟨#[]⟩:ByteArray),.slice none (([]:List (BitVec 8)).length) 0,.bool true] 41 (0,0))::diskM db D' sa' sk') [⟨SB,23,.slice ar R.length cr,R⟩,diskW D' sa' sk'] [Rp SB [.slice ab B.length cb] B,Rp SB [.slice none (([]:List (BitVec 8)).length) 0] ([]:List (BitVec 8))] w')∨
  ∃(D':DiskD)(sa':Option Addr)(sk':Nat),v=.tuple #[.pointer none,.I 70]∧DW D' nm (m+1) (c+1) (fun B lo hi=>P B lo hi∨∃R,Q B R∧R<+:lo∧hi<+:R)∧D0.armed=true∧Hp w S O (diskM db D' sa' sk') [diskW D' sa' sk'] [] w'):=by
 obtain⟨V,hpv,hg,hjs,hq,hsq⟩:=hO
 have hnl:D0.now.length≤256:=Nat.le_trans (NmC.now hd (hcap _)) hm
 obtain⟨a,b,d⟩:=hb _ _ hq
 refine(jopen_spec (n:=n) hpn hd ha hpv hjs hnl H0).mono fun e w' hh=>?_
 obtain⟨v,he,⟨jb,ab,cb,ar,cr,D',sa',sk',hv,hJ,f,i,j,k,H'⟩|⟨D',sa',sk',hv,hQ,H'⟩⟩:=hh
 ·exact⟨v,he,.inl ⟨jb,V.B,recsV D0 V,gV V,ab,cb,ar,cr,D',sa',sk',hv,hq,⟨hpn.1,f,i,hJ.mono hsq,hcap.step k,by omega,Nat.zero_le _,b,d,a⟩,j,H'⟩⟩
 ·exact⟨v,he,.inr ⟨D',sa',sk',hv,hQ.dw (P':=fun B lo hi=>P B lo hi∨∃R,Q B R∧R<+:lo∧hi<+:R) (by omega) hcap (fun _ _ _ h=>h.elim .inl fun h=>.inr ⟨recsV D0 V,by rw[h.1];exact hq,h.2⟩),hQ.arm,H'⟩⟩
end Go.Proofs.YtdnibpclkhenmaaGreatDoor
