import Derived.Test.YtdnibpclkhenmaaGreatDoorSG7
namespace Go.Proofs.YtdnibpclkhenmaaGreatDoor
open Go.BX
def newD(x y:Nat):DiskD:=⟨x,y,[],0,[],0,[],[],false,0,false⟩
theorem newD_ok(x y:Nat):DOk (newD x y):=
 ⟨MOk.nil,⟨MOk.nil,fun k e he=>(by rw[show(newD x y).steps=[]from rfl,List.take_nil]at he;cases he),fun x hx=>(by cases hx),fun x hx=>(by cases hx),fun f hf=>(by cases hf)⟩,fun _=>rfl,List.nodup_nil⟩
structure One(nm:ByteArray)(D:DiskD)(f:FileD):Prop where
 files:D.files=[f]
 now:D.now=[(nm,some f.p,0)]
theorem One.find{nm:ByteArray}{D:DiskD}{f:FileD}(h:One nm D f):mfind nm D.now=some (some f.p):=by rw[h.now];simp[mfind]
theorem toList_inj{a b:ByteArray}(h:a.toList=b.toList):a=b:=by
 rw[ByteArray.toList_eq,ByteArray.toList_eq]at h
 cases a
 cases b
 simp only at h
 rw[Array.toList_inj.1 h]
section
variable{S:Nat→Prop}{w:World}{O:List Nat}{db:Nat}{D:DiskD}{sa:Option Addr}{sk:Nat}
theorem dWriteN{name:ByteArray}{at_:Int}{xs:List (BitVec 8)}{a:Option Addr}{n ca:Nat}(hok:DOk D)(hst:D.steps.length≤1000000000)(hd:D.dead=false)(hl:D.armed=true→-9223372036854775808<D.left∧D.left≤9223372036854775807)
 (hs:name.size≤maxLen)(hat:-9223372036854775808≤at_∧at_≤9223372036854775807)(hn:xs.length=n)(H0:Hp w S O (diskM db D sa sk) [diskW D sa sk] [Rp SB [.slice a n ca] xs] w):
 Calls Tryz.prog 118 #[.P db 0,.string name,.I at_,.slice a n ca] w (DEnd w S O db fun v D'=>∃e,v=.I e∧WriteR D name at_ xs e D'):=by
 subst hn
 exact dWrite hok hst hd hl hs hat H0
theorem DOk.one{D:DiskD}(h:DOk D){f g:FileD}(hf:f∈D.files)(hg:g∈D.files)(e:f.p=g.p):f=g:=by
 obtain⟨i,hi,rfl⟩:=List.mem_iff_getElem.1 hf
 obtain⟨j,hj,rfl⟩:=List.mem_iff_getElem.1 hg
 have hn:=h.nd
 have:i=j:=nodup_inj hn (by simpa[psOf]using hi) (by simpa[psOf]using hj) (by simpa[psOf]using e)
 subst this
 rfl
theorem dReadHit{name:ByteArray}{at_:Int}(hok:DOk D)(hd:D.dead=false){f:FileD}(hf:f∈D.files)(hn:mfind name D.now=some (some f.p))(hat:0≤at_∧at_<f.size)(H0:Hp w S O (diskM db D sa sk) [diskW D sa sk] [] w):
 Calls Tryz.prog 159 #[.P db 0,.string name,.I at_] w (Ret fun v w'=>∃(a':Option Addr)(c':Nat),v=.tuple #[.slice a' (secL ((mfind at_ f.now).getD zeroSec)).length c',.I 0]∧
  Hp w S O (diskM db D sa sk) [⟨Sb,5,.slice a' (secL ((mfind at_ f.now).getD zeroSec)).length c',secL ((mfind at_ f.now).getD zeroSec)⟩,diskW D sa sk] [] w'):=
 (dRead (at_:=at_) hok hd H0).mono fun e w' hh=>by
  obtain⟨v,he,⟨⟨_,_,_,hr⟩,_⟩|⟨x,a',c',⟨g,hg,hgn,_,_, rfl⟩, hv, H'⟩⟩:= hh
  · rcases hr with⟨h1,_⟩|⟨g,hg,hgn,hr,_⟩
    ·rw[hn]at h1; cases h1
    · rw[hn]at hgn
      simp only[Option.some.injEq]at hgn
      obtain rfl := hok.one hf hg hgn
      omega
  · rw[hn]at hgn
    simp only[Option.some.injEq]at hgn
    obtain rfl :=hok.one hf hg hgn
    exact⟨v,he,a',c',hv,H'⟩
theorem dSizeHit{name:ByteArray}(hok:DOk D)(hd:D.dead=false){f:FileD}(hf:f∈D.files)(hn:mfind name D.now=some (some f.p))(H0:Hp w S O (diskM db D sa sk) [diskW D sa sk] [] w):
 Calls Tryz.prog 49 #[.P db 0,.string name] w (Ret fun v w'=>v=.tuple #[.I f.size,.I 0]∧Hp w S O (diskM db D sa sk) [diskW D sa sk] [] w'):=
 (dSize hok hd H0).mono fun e w' hh=>by
  obtain⟨v,he,⟨_,h1⟩|⟨g,hg,hgn,hv⟩,H'⟩:=hh
  ·rw[hn]at h1;cases h1
  · rw[hn]at hgn
    simp only[Option.some.injEq]at hgn
    obtain rfl := hok.one hf hg hgn
    exact⟨v,he,hv,H'⟩
theorem dSizeN{name:ByteArray}{n:Int}(hok:DOk D)(hd:D.dead=false){f:FileD}(hf:f∈D.files)(hn:mfind name D.now=some (some f.p))(hs:f.size=n)(H0:Hp w S O (diskM db D sa sk) [diskW D sa sk] [] w):
 Calls Tryz.prog 49 #[.P db 0,.string name] w (Ret fun v w'=>v=.tuple #[.I n,.I 0]∧Hp w S O (diskM db D sa sk) [diskW D sa sk] [] w'):=by
 subst hs
 exact dSizeHit hok hd hf hn H0
end
end Go.Proofs.YtdnibpclkhenmaaGreatDoor
