import Derived.Test.YtdnibpclkhenmaaGreatDoorSBxA
import Derived.Test.YtdnibpclkhenmaaGreatDoorSJ7
namespace Go.Proofs.YtdnibpclkhenmaaGreatDoor
open Go.BX
theorem names_c{S:Nat→Prop}{w:World}{O:List Nat}{db nb sk c sn:Nat}{sv:Option Nat}{sa:Option Addr}{L:NameL}{armed:Bool}{left:Int}(hT:MOk L c)(hk:∀x∈L,x.1.size≤maxLen)(hl:L.length≤1048576)(H0:Hp w S O [(db,.cells #[.bool true,.map sv,.map (some nb),.slice sa sn sk,.bool armed,.I left,.bool false] 39 (0,0)),(nb,mapO Value.string ptrV L c)] [] [] w):
 Calls Tryz.prog 105 #[.P db 0] w (Ret fun v w'=>∃(a:Option Addr)(cp:Nat)(ns:List ByteArray),ns.Perm (L.map (·.1))∧v=.slice a ns.length cp∧Hp w S O [(db,.cells #[.bool true,.map sv,.map (some nb),.slice sa sn sk,.bool armed,.I left,.bool false] 39 (0,0)),(nb,mapO Value.string ptrV L c)] [⟨Shape.str,9,.slice a ns.length cp,ns⟩] [] w'):=by
 refine uS1 Tryz.func105 ?_
 have H:=H0
 refine uR 4 [.c [1,0,0],.c [1,0,1],.c [2]] ?_
 refine qG (sq 0 3) ?_
 refine uP 1 ?_
 refine uK (state_spec (S:=fun _=>True) (made:=true) (dead:=false) (H.viewM 0 rfl (by simp))) ?_
 rintro _ _ d rfl
 have H:=H.ext d
 refine uF 1 ?_
 refine uR 3 [.c [2,0],.c [3]] ?_
 refine qG (sq 0 7) ?_
 refine uP 3 ?_
 refine uV 36 2 (H.cells 0 rfl) ?_
 refine uKS (keys_h nb H) ?_
 rintro _ _⟨e,rfl,H⟩
 have H:Hp w S O [(e,.cells #[.map (some nb)] 36 (0,0)),_,_] [] [] _:=H
 have H:=H.frontM 2 rfl
 have H:=H.frontM 1 rfl
 refine uKS (sorted_c H hT hk hl (St:=Av S w O (idsOf [(e,.cells #[.map (some nb)] 36 (0,0)),(nb,mapO Value.string ptrV L c),(db,.cells #[.bool true,.map sv,.map (some nb),.slice sa sn sk,.bool armed,.I left,.bool false] 39 (0,0))] []))) ?_
 rintro _ _⟨-,f,g,b,h,rfl,H'⟩
 have H:=H.back (M1:=[]) (W1:=[]) H'
 have H:Hp w S O [_,_,_] [⟨Shape.str,9,.slice f b.length g,b⟩] [] _:=H
 refine uF 1 ?_
 refine qT (.slice f b.length g) Tryz.func105 ?_
 have H:=H.frontM 1 rfl
 have H:=H.frontM 2 rfl
 have H:=H.dropM 2
 exact⟨_,rfl,_,_,_,h,rfl,H⟩
theorem dNames{S:Nat→Prop}{w:World}{O:List Nat}{db:Nat}{D:DiskD}{sa:Option Addr}{sk:Nat}(hd:DI D)(hdd:D.dead=false)(hl:D.now.length≤256)(H0:Hp w S O (diskM db D sa sk) [diskW D sa sk] [] w):
 Calls Tryz.prog 105 #[.P db 0] w (Ret fun v w'=>∃(a:Option Addr)(cp:Nat)(ns:List ByteArray),ns.Perm (D.now.map (·.1))∧v=.slice a ns.length cp∧Hp w S O (diskM db D sa sk) [⟨Shape.str,9,.slice a ns.length cp,ns⟩,diskW D sa sk] [] w'):=by
 have hT:=hd.ok.mnow
 have hk:∀x∈D.now,x.1.size≤maxLen:=fun x hx=>by
  have b:mfind x.1 D.now≠none:=fun q=>mfind_none.1 q (List.mem_map.2 ⟨x,hx,rfl⟩)
  rw[nm_now hd.ok]at b
  obtain⟨o,ho⟩:=Option.ne_none_iff_exists'.1 b
  have:=(hd.form _ _ _ ho).size.1
  unfold maxLen;omega
 obtain⟨sb,nb,A,lc,L,c,fs,steps,armed,left,dead⟩:=D
 obtain rfl:dead=false:=hdd
 refine(names_c hT hk (Nat.le_trans hl (by decide)) ((H0.lend (M1:=[_,_]) (W1:=[])).pick [] rfl)).mono fun e w' hh=>?_
 obtain⟨v,he,a,cp,ns,hp,hv,H'⟩:=hh
 exact⟨v,he,a,cp,ns,hp,hv,(H0.back (M1:=[_,_]) (W1:=[]) H').pick [] rfl⟩
end Go.Proofs.YtdnibpclkhenmaaGreatDoor
