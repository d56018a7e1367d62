import Derived.Test.YtdnibpclkhenmaaGreatDoorSBxA
import Derived.Test.YtdnibpclkhenmaaGreatDoorSG6
namespace Go.Proofs.YtdnibpclkhenmaaGreatDoor
open Go.BX
theorem wipe_new{S:Nat→Prop}{w:World}{O:List Nat}{db:Nat}(H0:Hp w S O [(db,.cells #[.bool true,.map none,.map none,.slice none 0 0,.bool false,.I 0,.bool false] 39 (0,0))] [] [] w):
 Calls Tryz.prog 48 #[.P db 0] w (Ret fun v w'=>v=.tuple #[]∧∃(x y:Nat),Hp w S O [(db,.cells #[.bool true,.map (some x),.map (some y),.slice none 0 0,.bool false,.I 0,.bool false] 39 (0,0)),(y,mapO Value.string ptrV ([]:NameL) 0),(x,mapO Value.string ptrV ([]:NameL) 0)] [] [] w'):=by
 refine uS1 Tryz.func48 ?_
 have H:=H0
 refine uR 2 [.c [0,0],.c [0,1],.c [1]] ?_
 refine qG (sq 0 9) ?_
 refine uP 6 ?_
 refine uV 4 0 (H.cells 0 rfl) ?_
 refine uF 2 ?_
 refine uR 3 [.c [1,0],.c [2]] ?_
 refine qG (sq 0 10) ?_
 refine uP 2 ?_
 refine RW.new (κ:=.seq) (d:=some 13) (r:=(sq 3 10)) (o:=mapO Value.string ptrV ([]:List (ByteArray×(Option Nat)×Nat)) 0) (v:=fun b_=>.map (some b_)) (fun _=>by as_aux_lemma=>kernel_rfl) (nofun) H ?_
 intro a _ H
 refine RW.new (κ:=.seq) (d:=some 14) (r:=(sq 4 10)) (o:=mapO Value.string ptrV ([]:List (ByteArray×(Option Nat)×Nat)) 0) (v:=fun b_=>.map (some b_)) (fun _=>by as_aux_lemma=>kernel_rfl) (nofun) H ?_
 intro b _ H
 refine uP 2 ?_
 refine uW 36 1 #[.bool true,.map (some a),.map none,.slice none 0 0,.bool false,.I 0,.bool false] H 2 rfl ?_
 intro _ H
 refine uP 2 ?_
 refine uW 36 2 #[.bool true,.map (some a),.map (some b),.slice none 0 0,.bool false,.I 0,.bool false] H 2 rfl ?_
 intro _ H
 refine uF 0 ?_
 refine qG (sq 0 12) ?_
 refine uP 5 ?_
 refine uW 37 3 #[.bool true,.map (some a),.map (some b),.slice none 0 0,.bool false,.I 0,.bool false] H 2 rfl ?_
 intro _ H
 refine uP 2 ?_
 refine uW 4 6 #[.bool true,.map (some a),.map (some b),.slice none 0 0,.bool false,.I 0,.bool false] H 2 rfl ?_
 intro _ H
 refine qP 2 (sq 11 12) [(27,.P db 4)] ?_
 refine uW 4 4 #[.bool true,.map (some a),.map (some b),.slice none 0 0,.bool false,.I 0,.bool false] H 2 rfl ?_
 intro _ H
 refine uF 0 ?_
 refine WK.fin (v:=.tuple #[]) Tryz.func48 (by as_aux_lemma=>kernel_rfl) ?_
 have H:=H.frontM 1 rfl
 have H:=H.frontM 1 rfl
 have H:=H.frontM 2 rfl
 exact⟨_,rfl,rfl,a,b,H⟩
theorem new_spec{S:Nat→Prop}{w:World}  :
 Calls Tryz.prog 12 #[] w (Ret fun v w'=>Ext w w'∧∃(db x y:Nat),v=.P db 0∧Hp w S [] [(db,.cells #[.bool true,.map (some x),.map (some y),.slice none 0 0,.bool false,.I 0,.bool false] 39 (0,0)),(y,mapO Value.string ptrV ([]:NameL) 0),(x,mapO Value.string ptrV ([]:NameL) 0)] [⟨stepS,143,.slice none 0 0,([]:List StepD)⟩] [] w'):=by
 refine uS1 Tryz.func12 ?_
 have H:=Hp.startF (w:=w) (S:=S) (G:=[]) .nil
 refine uR 3 [.c [1,0],.c [2]] ?_
 refine qG (sq 0 3) ?_
 refine uP 1 ?_
 refine uC #[.bool true,.map none,.map none,.slice none 0 0,.bool false,.I 0,.bool false] 39 H ?_
 intro a _ H
 refine uF 1 ?_
 refine uR 1 [.c [2,0],.c [3]] ?_
 refine qG (sq 0 2) ?_
 refine uP 1 ?_
 refine uKS (wipe_new ((H.lend (M1:=[_]) (W1:=[])).pick [] rfl)) ?_
 rintro _ _⟨rfl,b,d,H'⟩
 have H:=H.back (M1:=[_]) (W1:=[]) H'
 have H:Hp w S [] [(a,.cells #[.bool true,.map (some b),.map (some d),.slice none 0 0,.bool false,.I 0,.bool false] 39 (0,0)),(d,mapO Value.string ptrV ([]:NameL) 0),(b,mapO Value.string ptrV ([]:NameL) 0)] [] [] _:=H
 refine uF 0 ?_
 refine uR 2 [.c [4]] ?_
 refine qT (.P a 0) Tryz.func12 ?_
 exact⟨_,rfl,H.done,a,b,d,rfl,H.ownNil stepS 143⟩
theorem arm_spec{S:Nat→Prop}{w:World}{O:List Nat}{db sk sn:Nat}{sv nv:Option Nat}{sa:Option Addr}{left:Int}{armed:Bool}(m:Int)(H0:Hp w S O [(db,.cells #[.bool true,.map sv,.map nv,.slice sa sn sk,.bool armed,.I left,.bool false] 39 (0,0))] [] [] w):
 Calls Tryz.prog 69 #[.P db 0,.I m] w (Ret fun v w'=>v=.tuple #[]∧Hp w S O [(db,.cells #[.bool true,.map sv,.map nv,.slice sa sn sk,.bool (decide (m≥0)),.I m,.bool false] 39 (0,0))] [] [] w'):=by
 refine uS1 Tryz.func69 ?_
 have H:=H0
 refine uR 1 [.c [0],.c [1]] ?_
 refine qG (sq 0 3) ?_
 refine uP 1 ?_
 refine uK (state_spec (S:=fun _=>True) (made:=true) (dead:=false) (H.viewM 0 rfl (by simp))) ?_
 rintro _ _ a rfl
 have H:=H.ext a
 refine uF 1 ?_
 refine uR 1 [.c [1,0]] ?_
 refine qG (sq 0 11) ?_
 refine uP 7 ?_
 refine uW 4 4 #[.bool true,.map sv,.map nv,.slice sa sn sk,.bool (decide ((m:Int)≥0)),.I left,.bool false] H 0 rfl ?_
 intro _ H
 refine uP 2 ?_
 refine uW 3 5 #[.bool true,.map sv,.map nv,.slice sa sn sk,.bool (decide ((m:Int)≥0)),.I m,.bool false] H 0 rfl ?_
 intro _ H
 refine uF 0 ?_
 refine WK.fin (v:=.tuple #[]) Tryz.func69 (by as_aux_lemma=>kernel_rfl) ?_
 exact⟨_,rfl,rfl,H⟩
theorem dead_true{S:Nat→Prop}{w:World}{db sn sk:Nat}{sv nv:Option Nat}{sa:Option Addr}{armed:Bool}{left:Int}(hF:(Fc db 0 [.bool true,.map sv,.map nv,.slice sa sn sk,.bool armed,.I left,.bool true]).p S w):
 Calls Tryz.prog 51 #[.P db 0] w (Ret fun v w'=>Ext w w'∧v=.bool true):=by
 refine uS1 Tryz.func51 ?_
 have H:=Hp.startF (w:=w) (S:=S) (G:=[Fc db 0 [.bool true,.map sv,.map nv,.slice sa sn sk,.bool armed,.I left,.bool true]]) (.cons hF .nil)
 refine uR 3 [.c [1,0],.c [2]] ?_
 refine qG (sq 0 4) ?_
 refine uP 1 ?_
 refine uK (state_spec (S:=fun _=>True) (made:=true) (dead:=true) (H.viewF 0 rfl)) ?_
 rintro _ _ a rfl
 have H:=H.ext a
 refine uF 2 ?_
 refine qT (.bool true) Tryz.func51 ?_
 exact⟨_,rfl,H.done,rfl⟩
theorem dead_false{S:Nat→Prop}{w:World}{db sn sk:Nat}{sv nv:Option Nat}{sa:Option Addr}{armed:Bool}{left:Int}(hF:(Fc db 0 [.bool true,.map sv,.map nv,.slice sa sn sk,.bool armed,.I left,.bool false]).p S w):
 Calls Tryz.prog 51 #[.P db 0] w (Ret fun v w'=>Ext w w'∧v=.bool false):=by
 refine uS1 Tryz.func51 ?_
 have H:=Hp.startF (w:=w) (S:=S) (G:=[Fc db 0 [.bool true,.map sv,.map nv,.slice sa sn sk,.bool armed,.I left,.bool false]]) (.cons hF .nil)
 refine uR 3 [.c [1,0],.c [2]] ?_
 refine qG (sq 0 4) ?_
 refine uP 1 ?_
 refine uK (state_spec (S:=fun _=>True) (made:=true) (dead:=false) (H.viewF 0 rfl)) ?_
 rintro _ _ a rfl
 have H:=H.ext a
 refine uF 2 ?_
 refine qT (.bool false) Tryz.func51 ?_
 exact⟨_,rfl,H.done,rfl⟩
end Go.Proofs.YtdnibpclkhenmaaGreatDoor

namespace Go.Proofs.YtdnibpclkhenmaaGreatDoor
open Go.BX
abbrev dkB(db:Nat)(D:DiskD)(sa:Option Addr)(sk:Nat):Nat×Obj:=(db,.cells #[.bool true,.map (some D.sb),.map (some D.nb),.slice sa D.steps.length sk,.bool D.armed,.I D.left,.bool D.dead] 39 (0,0))
abbrev diskM(db:Nat)(D:DiskD)(sa:Option Addr)(sk:Nat):Heap:=dkB db D sa sk::(D.nb,mapO Value.string ptrV D.now D.nc)::(D.sb,mapO Value.string ptrV D.safe D.sc)::filesH D.files
abbrev diskW(D:DiskD)(sa:Option Addr)(sk:Nat):OwnS:=⟨stepS,143,.slice sa D.steps.length sk,D.steps⟩
structure DOk(D:DiskD):Prop where
 mnow:MOk D.now D.nc
 cr:CrOk (D.safe,D.sc) D.files D.steps
 same:∀x,mfind x D.now=mfind x (D.steps.foldl mapN (D.safe,D.sc)).1
 nd:(psOf D.files).Nodup
theorem DOk.valid{D:DiskD}(h:DOk D){x:ByteArray}{o:Option Nat}(hx:mfind x D.now=some o):∃p,o=some p∧p∈psOf D.files:=by
 rw[h.same]at hx
 obtain⟨e,he,-,rfl⟩:=mfind_mem hx
 have hg:=h.cr.good D.steps.length e
 rw[List.take_length]at hg
 exact hg he
theorem mapN_cong{L1 L2:NameL×Nat}(h1:MOk L1.1 L1.2)(h2:MOk L2.1 L2.2)(h:∀x,mfind x L1.1=mfind x L2.1)(s:StepD):∀x,mfind x (mapN L1 s).1=mfind x (mapN L2 s).1:=by
 intro x
 unfold mapN
 split
 · simp only[mfind_set, h]
 · split
   ·simp only[mfind_del _ _ (h1.set _ _).keys,mfind_del _ _ (h2.set _ _).keys,mfind_set,h]
   · split
     · simp only[mfind_del _ _ h1.keys,mfind_del _ _ h2.keys,h]
     ·exact h x
theorem mset_in{α β:Type}[DecidableEq α]{x:α}{v:β}{c:Nat}:∀{L:List (α×β×Nat)}{e:α×β×Nat},e∈mset x v c L→e.2.1=v∨e∈L
 |[],e,h=>by
  simp[mset]at h
  exact .inl (by rw[h])
 |a::L,e,h=> by
  simp only[mset]at h
  split at h
  · rcases List.mem_cons.1 h with rfl | h
    · exact .inl rfl
    · exact .inr (List.mem_cons_of_mem _ h)
  · rcases List.mem_cons.1 h with rfl|h
    ·exact .inr (List.mem_cons_self ..)
    ·exact(mset_in h).imp id (List.mem_cons_of_mem _)
theorem mapN_good{ps:List Nat}{L:NameL×Nat}(h:∀e∈L.1,∃p,e.2.1=some p∧p∈ps){s:StepD}(h0:s.kind=0→∃q,s.file=some q∧q∈ps)(h1:s.kind=1→mfind s.frm L.1≠none):
 ∀e∈(mapN L s).1,∃p,e.2.1=some p∧p∈ps:= by
 intro e he
 unfold mapN at he
 split at he
 · rename_i hk
   rcases mset_in he with he | he
   · rw[he]; exact h0 hk
   · exact h e he
 · split at he
   · rename_i hk
     rcases mset_in ((mdel_sub _ _).subset he)with he | he
     · cases hf:mfind s.frm L.1 with
       |none=>exact absurd hf (h1 hk)
       |some o=>
        rw[hf]at he
        obtain⟨e',he',-,h3⟩:=mfind_mem hf
        obtain⟨p,hp,hpp⟩:=h e' he'
        refine⟨p,?_,hpp⟩
        rw[he,Option.getD_some,← h3, hp]
     · exact h e he
   · split at he
     · exact h e ((mdel_sub _ _).subset he)
     · exact h e he
def addS(D:DiskD)(x:StepD):DiskD:={D with now:=(mapN (D.now,D.nc) x).1,nc:=(mapN (D.now,D.nc) x).2,steps:=D.steps++[x]}
theorem DOk.addS'{D:DiskD}(h:DOk D){x:StepD}(hx:StepIn x)(hw:x.kind=3→∃q,x.file=some q∧q∈psOf D.files)(h0:x.kind=0→∃q,x.file=some q∧q∈psOf D.files)(h1:x.kind=1→mfind x.frm D.now≠none):DOk (addS D x)where
 mnow:=mapN_ok h.mnow x
 nd:=h.nd
 cr:=⟨h.cr.map, fun k => by
  by_cases hk : k ≤ D.steps.length
  · have e:(D.steps++[x]).take k=D.steps.take k:=List.take_append_of_le_length hk
    intro q hq
    have hq':q∈(((D.steps++[x]).take k).foldl mapN (D.safe,D.sc)).1:=hq
    rw[e]at hq'
    exact h.cr.good k q hq'
  · have e : (D.steps ++ [x]).take k = D.steps ++ [x]:=List.take_of_length_le (by simp;omega)
    intro q hq
    have hq':q∈(((D.steps++[x]).take k).foldl mapN (D.safe,D.sc)).1:=hq
    rw[e,List.foldl_append]at hq'
    refine mapN_good (ps:=psOf D.files) (L:=D.steps.foldl mapN (D.safe,D.sc)) (fun e he=>?_) h0 (fun hk=>by rw[←h.same];exact h1 hk) q hq'
    have:=h.cr.good D.steps.length e
    rw[List.take_length]at this
    exact this he,
  fun y hy hk=>by
   rcases List.mem_append.1 hy with hy|hy
   ·exact h.cr.wr y hy hk
   ·rw[List.mem_singleton.1 hy]at hk⊢;exact hw hk,
  fun y hy=>by
   rcases List.mem_append.1 hy with hy|hy
   ·exact h.cr.inn y hy
   ·rw[List.mem_singleton.1 hy];exact hx,h.cr.files⟩
 same:=fun y=>by
  show mfind y (mapN (D.now,D.nc) x).1=mfind y ((D.steps++[x]).foldl mapN (D.safe,D.sc)).1
  rw[List.foldl_append]
  exact mapN_cong h.mnow (foldN_ok h.cr.map _) h.same x y
def setF(D:DiskD)(fs:List FileD):DiskD:={D with files:=fs}
theorem DOk.setF'{D:DiskD}(h:DOk D){fs:List FileD}(hs:∀p∈psOf D.files,p∈psOf fs)(hf:FilesOk fs)(hn:(psOf fs).Nodup):DOk (setF D fs)where
 mnow:=h.mnow
 nd:=hn
 same:=h.same
 cr:=⟨h.cr.map,fun k e he=>by obtain⟨p,h1,h2⟩:=h.cr.good k e he;exact⟨p,h1,hs p h2⟩,fun x hx hk=>by obtain⟨p,h1,h2⟩:=h.cr.wr x hx hk;exact⟨p,h1,hs p h2⟩,h.cr.inn,hf⟩
def tick(D:DiskD):DiskD:={D with left:=lf D.armed D.left}
def stopD(D:DiskD):DiskD:={D with left:=D.left-1,dead:=true}
theorem DOk.tick'{D:DiskD}(h:DOk D):DOk (tick D):=⟨h.mnow,h.cr,h.same,h.nd⟩
theorem DOk.stopD'{D:DiskD}(h:DOk D):DOk (stopD D):=⟨h.mnow,h.cr,h.same,h.nd⟩
abbrev noS:ByteArray:=⟨#[]⟩
def wrS(p:Nat)(at_:Int)(x:Sec):StepD:=⟨3,some p,noS,noS,at_,x⟩
def wrOld(D:DiskD)(p:Nat)(at_:Int)(x:Sec):DiskD:=tick (addS (setF D (updF D.files p (putB at_ x))) (wrS p at_ x))
def wrNew(D:DiskD)(p s n:Nat)(name:ByteArray)(at_:Int)(x:Sec):DiskD:=tick (addS (addS (setF D (putB at_ x ⟨p,s,n,[],0,[],0,0⟩::D.files)) ⟨0,some p,noS,name,0,zeroSec⟩) (wrS p at_ x))
def wArg(D:DiskD)(name:ByteArray)(at_:Int)(xs:List (BitVec 8)):Int:=
 if nmI name≠1∨at_<0∨65536≤at_∨xs.length≠64 then 2 else if mfind name D.now=none∧256≤D.now.length then 72 else 0
def Stops(D:DiskD):Prop:=D.armed=true∧D.left<1
def WriteR(D:DiskD)(name:ByteArray)(at_:Int)(xs:List (BitVec 8))(e:Int)(D':DiskD):Prop:=
 (e=wArg D name at_ xs∧e≠0∧D'=D)∨(e=70∧wArg D name at_ xs=0∧Stops D∧D'=stopD D)∨
 (e=0∧wArg D name at_ xs=0∧¬Stops D∧∃p,mfind name D.now=some (some p)∧D'=wrOld D p at_ (secOf xs))∨
 (e=0∧wArg D name at_ xs=0∧¬Stops D∧mfind name D.now=none∧∃p s n,p∉psOf D.files∧D'=wrNew D p s n name at_ (secOf xs))
theorem wArg_in{D:DiskD}{name:ByteArray}{at_:Int}{xs:List (BitVec 8)}(h:wArg D name at_ xs=0):nmI name=1∧(0≤at_∧at_<65536)∧xs.length=64∧(mfind name D.now=none→D.now.length<256):= by
 unfold wArg at h
 split at h
 · omega
 · split at h
   · omega
   · rename_i h1 h2
     exact⟨by omega, by omega,by omega,fun hn=>Nat.lt_of_not_le fun hh=>h2 ⟨hn,hh⟩⟩
theorem files_put{fs:List FileD}(h:FilesOk fs){at_:Int}(ha:0≤at_∧at_<65536)(x:Sec)(p:Nat):FilesOk (updF fs p (putB at_ x)):=FilesOk.updF h fun _ hf=>hf.putB ha x
theorem newFile_ok{at_:Int}(ha:0≤at_∧at_<65536)(x:Sec)(p s n:Nat):FileOk (putB at_ x ⟨p,s,n,[],0,[],0,0⟩):=
 FileOk.putB ⟨MOk.nil,MOk.nil,fun e he=>(by cases he),fun e he=>(by cases he),Int.le_refl _,show(0:Int)≤65536 by decide⟩ ha x
theorem wrS_in{p:Nat}{at_:Int}{x:Sec}(ha:0≤at_∧at_<65536):StepIn (wrS p at_ x):=stepIn_mk (by decide) ha (Nat.zero_le _) (Nat.zero_le _)
theorem WriteR.ok{D D':DiskD}{name:ByteArray}{at_ e:Int}{xs:List (BitVec 8)}(h:DOk D)(hs:name.size≤maxLen)(hr:WriteR D name at_ xs e D'):DOk D':=by
 rcases hr with⟨-,-,rfl⟩|⟨-,-,-,rfl⟩|⟨-,ha,-,p,hp,rfl⟩|⟨-,ha,-,-,p,s,n,hp,rfl⟩
 ·exact h
 ·exact h.stopD'
 · obtain⟨-, hat, -, -⟩:= wArg_in ha
   obtain⟨q, hq, hpm⟩:= h.valid hp
   cases hq
   have hps : psOf (updF D.files p (putB at_ (secOf xs)))=psOf D.files:=updF_ps _ _ _ fun _=>rfl
   have h1:=h.setF' (fs:=updF D.files p (putB at_ (secOf xs))) (fun q hq=>by rw[hps];exact hq) (files_put h.cr.files hat _ p) (by rw[hps];exact h.nd)
   exact(h1.addS' (wrS_in hat) (fun _=>⟨p,rfl,by show p∈psOf (updF D.files p (putB at_ (secOf xs)));rw[hps];exact hpm⟩) (fun hk=>absurd (show(3:Int)=0 from hk) (by decide)) (fun hk=>absurd (show(3: Int) = 1 from hk) (by decide))).tick'
 · obtain⟨-, hat, -, -⟩:= wArg_in ha
   have h1 := h.setF' (fs:=putB at_ (secOf xs) ⟨p,s,n,[],0,[],0,0⟩::D.files) (fun q hq=>List.mem_cons_of_mem _ hq) (fun f hf=>by
    rcases List.mem_cons.1 hf with rfl|hf
    ·exact newFile_ok hat _ p s n
    ·exact h.cr.files f hf) (List.nodup_cons.2 ⟨hp,h.nd⟩)
   have hm:p∈psOf (putB at_ (secOf xs) ⟨p,s,n,[],0,[],0,0⟩::D.files):=List.mem_cons_self ..
   have h2:=h1.addS' (x:=⟨0,some p,noS,name,0,zeroSec⟩) (stepIn_mk (by decide) (by decide) (Nat.zero_le _) hs) (fun hk=>absurd (show(0:Int)=3 from hk) (by decide)) (fun _=>⟨p,rfl,hm⟩) (fun hk=>absurd (show(0:Int)=1 from hk) (by decide))
   exact(h2.addS' (wrS_in hat) (fun _=>⟨p,rfl,hm⟩) (fun hk=>absurd (show(3:Int)=0 from hk) (by decide)) (fun hk=>absurd (show(3:Int)=1 from hk) (by decide))).tick'
theorem go_of{D:DiskD}(h:¬Stops D)(hl:D.armed=true→D.left≤9223372036854775807):D.armed=true→1≤D.left∧D.left≤9223372036854775807:=fun ha=>⟨by
 refine Classical.byContradiction fun hn=>h ⟨ha,by omega⟩,hl ha⟩
section
variable{S:Nat→Prop}{w:World}{O:List Nat}{db:Nat}{D:DiskD}{sa:Option Addr}{sk:Nat}
abbrev DEnd(w:World)(S:Nat→Prop)(O:List Nat)(db:Nat)(R:Value→DiskD→Prop):Ending→World→Prop:=
 Ret fun v w'=>∃(D':DiskD)(sa':Option Addr)(sk':Nat),R v D'∧Hp w S O (diskM db D' sa' sk') [diskW D' sa' sk'] [] w'
theorem dWrite{name:ByteArray}{at_:Int}{xs:List (BitVec 8)}{a:Option Addr}{ca:Nat}(hok:DOk D)(hst:D.steps.length≤1000000000)(hd:D.dead=false)(hl:D.armed=true→-9223372036854775808<D.left∧D.left≤9223372036854775807)
 (hs:name.size≤maxLen)(hat:-9223372036854775808≤at_∧at_ ≤ 9223372036854775807)(H0 : Hp w S O (diskM db D sa sk) [diskW D sa sk] [Rp SB [.slice a xs.length ca] xs] w) :
 Calls Tryz.prog 118 #[.P db 0, .string name, .I at_, .slice a xs.length ca] w (DEnd w S O db fun v D' => ∃ e, v =.I e ∧ WriteR D name at_ xs e D') := by
 by_cases hb : nmI name ≠ 1 ∨ at_ < 0 ∨ 65536 ≤ at_ ∨ xs.length ≠ 64
 · have hA : wArg D name at_ xs = 2 := if_pos hb
   obtain⟨sb, nb, A, lc, L, c, fs, steps, armed, left, dead⟩:= D
   obtain rfl : dead = false := hd
   refine(write_bad hs hat hb ((H0.lend (M1 := [dkB db _ sa sk]) (W1 := [])).pick [0] rfl)).mono fun e w' hh =>?_
   obtain⟨v, he, hv, H'⟩:= hh
   exact⟨v, he, _, sa, sk, ⟨2, hv, .inl ⟨hA.symm, by decide, rfl⟩⟩, (H0.back (M1 := [dkB db _ sa sk]) (W1 := []) H').pick [] rfl⟩
 · have hnm : nmI name = 1 := by omega
   have hat2 : 0 ≤ at_ ∧ at_ < 65536 := by omega
   have hxs : xs.length = 64 := by omega
   cases hf : mfind name D.now with
   | none =>
    by_cases hL : 256 ≤ D.now.length
    · have hA : wArg D name at_ xs = 72 := by unfold wArg; rw[if_neg hb, if_pos ⟨hf, hL⟩]
      obtain⟨sb, nb, A, lc,L,c,fs,steps,armed,left,dead⟩:=D
      obtain rfl:dead=false:=hd
      refine(write_full hs hnm hat2 hxs hf hL ((H0.lend (M1:=[dkB db _ sa sk,(nb,mapO Value.string ptrV L c)]) (W1:=[])).pick [0] rfl)).mono fun e w' hh=>?_
      obtain⟨v,he,hv,H'⟩:=hh
      exact⟨v,he,_,sa,sk,⟨72,hv,.inl ⟨hA.symm,by decide,rfl⟩⟩,(H0.back (M1:=[dkB db _ sa sk,(nb,mapO Value.string ptrV L c)]) (W1:=[]) H').pick [] rfl⟩
    · have hA : wArg D name at_ xs = 0 := by unfold wArg; rw[if_neg hb, if_neg (fun hh => hL hh.2)]
      by_cases hS : Stops D
      · have hl1 := hl hS.1
        obtain⟨sb, nb, A, lc, L, c, fs, steps, armed, left, dead⟩:= D
        obtain rfl : dead = false := hd
        obtain⟨ha, hlt⟩:= hS
        obtain rfl : armed = true := ha
        refine(write_stopN hs hnm hat2 hxs ⟨hlt, hl1.1⟩ hf (Nat.lt_of_not_le hL) ((H0.lend (M1 := [dkB db _ sa sk, (nb, mapO Value.string ptrV L c)]) (W1 := [])).pick [0] rfl)).mono fun e w' hh =>?_
        obtain⟨v, he, hv, H'⟩:= hh
        exact⟨v, he, _, sa, sk, ⟨70, hv, .inr (.inl ⟨rfl, hA, ⟨rfl, hlt⟩, rfl⟩)⟩, (H0.back (M1 := [dkB db _ sa sk, (nb, mapO Value.string ptrV L c)]) (W1 := []) H').pick [] rfl⟩
      · have hgo := go_of hS fun ha => (hl ha).2
        obtain⟨sb, nb, A, lc, L, c, fs,steps,armed,left,dead⟩:=D
        obtain rfl:dead=false:=hd
        refine(write_new hs hnm hat2 hxs hst hgo hf (Nat.lt_of_not_le hL) ((H0.lend (M1:=[dkB db _ sa sk,(nb,mapO Value.string ptrV L c)]) (W1:=[diskW _ sa sk])).pick [0] rfl)).mono fun e w' hh=>?_
        obtain⟨v,he,hv,p,s,n,sa',sk',H'⟩:=hh
        have H3:=(H0.back (M1:=[dkB db _ sa sk,(nb,mapO Value.string ptrV L c)]) (W1:=[diskW _ sa sk]) H').pick [] rfl
        have H4:Hp w S O (diskM db (wrNew ⟨sb,nb,A,lc,L,c,fs,steps,armed,left,false⟩ p s n name at_ (secOf xs)) sa' sk') [diskW (wrNew ⟨sb,nb,A,lc,L,c,fs,steps,armed,left,false⟩ p s n name at_ (secOf xs)) sa' sk'] [] w':=
         H3.perms (((List.perm_middle (a:=(sb,mapO Value.string ptrV A lc)) (l₁:=fileH (putB at_ (secOf xs) ⟨p,s,n,[],0,[],0,0⟩)) (l₂:=filesH fs)).symm.cons _).cons _) (List.Perm.refl _)
        have hnd:=ps_nodup2 (fs:=putB at_ (secOf xs) ⟨p,s,n,[],0,[],0,0⟩:: fs) H4 [_, _, _] rfl
        exact⟨v, he, _, sa', sk', ⟨0, hv, .inr (.inr (.inr ⟨rfl, hA, hS, hf, p, s, n, (List.nodup_cons.1 hnd).1, rfl⟩))⟩, H4⟩
   | some o =>
    obtain⟨p, rfl, hpm⟩:= hok.valid hf
    have hA : wArg D name at_ xs = 0 := by unfold wArg; rw[if_neg hb, if_neg (fun hh => by rw[hf]at hh; cases hh.1)]
    by_cases hS : Stops D
    · have hl1 := hl hS.1
      obtain⟨sb, nb,A,lc,L,c,fs,steps,armed,left,dead⟩:=D
      obtain rfl:dead=false:=hd
      obtain⟨ha,hlt⟩:=hS
      obtain rfl:armed=true:=ha
      refine(write_stopO hs hnm hat2 hxs ⟨hlt,hl1.1⟩ hf ((H0.lend (M1:=[dkB db _ sa sk,(nb,mapO Value.string ptrV L c)]) (W1:=[])).pick [0] rfl)).mono fun e w' hh=>?_
      obtain⟨v,he,hv,H'⟩:=hh
      exact⟨v,he,_,sa,sk,⟨70, hv, .inr (.inl ⟨rfl, hA, ⟨rfl, hlt⟩, rfl⟩)⟩, (H0.back (M1 := [dkB db _ sa sk, (nb, mapO Value.string ptrV L c)]) (W1 := []) H').pick [] rfl⟩
    · have hgo := go_of hS fun ha => (hl ha).2
      have hnd := hok.nd
      obtain⟨sb, nb, A, lc, L, c, fs, steps, armed, left, dead⟩:= D
      obtain rfl : dead = false := hd
      obtain⟨i, f, hi, hfp⟩:= ps_at hpm
      obtain⟨fp, s,n,X,xc,Y,yc,size⟩:=f
      obtain rfl:fp=p:=hfp
      have H1:Hp w S O (([dkB db ⟨sb,nb,A,lc,L,c,fs,steps,armed,left,false⟩ sa sk,(nb,mapO Value.string ptrV L c)]++fileH ⟨fp,s,n,X,xc,Y,yc,size⟩)++((sb,mapO Value.string ptrV A lc)::filesH (fs.eraseIdx i))) [diskW ⟨sb,nb,A,lc,L,c,fs,steps,armed,left,false⟩ sa sk] _ w:=
       H0.perms (((((filesH_pick hi).cons (sb,mapO Value.string ptrV A lc)).trans List.perm_middle.symm).symm.cons _).cons _) (List.Perm.refl _)
      refine(write_old hs hnm hat2 hxs hst hgo hf ((H1.lend (M1:=[dkB db ⟨sb,nb,A,lc,L,c,fs,steps,armed,left,false⟩ sa sk,(nb,mapO Value.string ptrV L c)]++fileH ⟨fp,s,n,X,xc,Y,yc,size⟩) (W1:=[diskW _ sa sk])).pick [0] rfl)).mono fun e w' hh=>?_
      obtain⟨v,he,hv,sa',sk',H'⟩:=hh
      have H3:=(H1.back (M1:=[dkB db ⟨sb,nb,A,lc,L,c,fs,steps,armed,left,false⟩ sa sk,(nb,mapO Value.string ptrV L c)]++fileH ⟨fp,s,n,X,xc,Y,yc,size⟩) (W1:=[diskW _ sa sk]) H').pick [] rfl
      have hu:=updF_set (g:=putB at_ (secOf xs)) hnd hi rfl
      have H4:Hp w S O (diskM db (wrOld ⟨sb,nb,A,lc,L,c,fs,steps,armed,left,false⟩ fp at_ (secOf xs)) sa' sk') [diskW (wrOld ⟨sb,nb,A,lc,L,c,fs,steps,armed,left,false⟩ fp at_ (secOf xs)) sa' sk'] [] w':=
       H3.perms (((((by show(filesH (updF fs fp (putB at_ (secOf xs)))).Perm _;rw[hu];exact filesH_put _ (List.getElem?_eq_some_iff.1 hi).1:(filesH (updF fs fp (putB at_ (secOf xs)))).Perm (fileH (putB at_ (secOf xs) ⟨fp,s,n,X,xc,Y,yc,size⟩)++filesH (fs.eraseIdx i))).cons (sb,mapO Value.string ptrV A lc)).trans List.perm_middle.symm).cons _).cons _) (List.Perm.refl _)
      exact⟨v,he,_,sa',sk',⟨0,hv,.inr (.inr (.inl ⟨rfl,hA,hS,fp,hf,rfl⟩))⟩,H4⟩
end
end Go.Proofs.YtdnibpclkhenmaaGreatDoor

namespace Go.Proofs.YtdnibpclkhenmaaGreatDoor
open Go.BX
theorem FileOk.sync{f:FileD}(h:FileOk f){l:List StepD}(hl:∀x∈l,StepIn x)(p:Nat):FileOk {f with safe:=(syncX p (f.safe,f.sc) l).1,sc:=(syncX p (f.safe,f.sc) l).2}:=by
 have key:∀(l:List StepD)(X:SecM×Nat),(∀x∈l,StepIn x)→MOk X.1 X.2→(∀e∈X.1,0≤e.1∧e.1<65536)→MOk (l.foldl putX X).1 (l.foldl putX X).2∧∀e∈(l.foldl putX X).1,0≤e.1∧e.1<65536:=by
  intro l
  induction l with
  |nil=>intro X _ h1 h2;exact⟨h1,h2⟩
  |cons x l ih=>
   intro X hx h1 h2
   refine ih (putX X x) (fun y hy=>hx y (List.mem_cons_of_mem _ hy)) (h1.set _ _) fun e he=>?_
   rcases mset_at he with e1|⟨e',he',e1⟩
   ·have:=(hx x (List.mem_cons_self ..)).2.1;omega
   ·have:=h2 e' he';omega
 obtain⟨h1,h2,h3,h4,h5⟩:=h
 obtain⟨k1,k2⟩:=key (l.filter (isOf p)) (f.safe,f.sc) (fun x hx=>hl x (List.mem_filter.1 hx).1) h1 h3
 exact⟨k1,h2,k2,h4,h5⟩
def syncF(p:Nat)(l:List StepD)(f:FileD):FileD:={f with safe:=(syncX p (f.safe,f.sc) l).1,sc:=(syncX p (f.safe,f.sc) l).2}
def syncD(D:DiskD)(p:Nat):DiskD:=
 tick {D with safe:=(D.steps.foldl mapN (D.safe,D.sc)).1,sc:=(D.steps.foldl mapN (D.safe,D.sc)).2,files:=updF D.files p (syncF p D.steps),steps:=leftS p D.steps}
theorem leftS_kind{p:Nat}{l:List StepD}{x:StepD}(h:x∈leftS p l):x∈l∧x.kind=3:=by
 unfold leftS at h
 obtain⟨h1,h2⟩:=List.mem_filter.1 h
 exact⟨h1,(of_decide_eq_true h2).1⟩
theorem fold_skip{L:NameL×Nat}:∀{l:List StepD},(∀x∈l,x.kind=3)→l.foldl mapN L=L
 |[],_=>rfl
 |x::l,h=>by
  rw[List.foldl_cons,mapN_skip (h x (List.mem_cons_self ..))]
  exact fold_skip fun y hy=>h y (List.mem_cons_of_mem _ hy)
theorem DOk.syncD'{D:DiskD}(h:DOk D)(p:Nat):DOk (syncD D p):=by
 have hps:psOf (updF D.files p (syncF p D.steps))=psOf D.files:=updF_ps _ _ _ fun _=>rfl
 have hg:∀e∈(D.steps.foldl mapN (D.safe,D.sc)).1,∃q,e.2.1=some q∧q∈psOf D.files:=by
  have:=h.cr.good D.steps.length
  rw[List.take_length]at this
  exact this
 refine⟨h.mnow,⟨foldN_ok h.cr.map _,fun k e he=>?_,fun x hx hk=>?_,fun x hx=>h.cr.inn x (leftS_kind hx).1,FilesOk.updF h.cr.files fun f hf=>hf.sync h.cr.inn p⟩,fun x=>?_,hps▸ h.nd⟩
 · have e1 : ((leftS p D.steps).take k).foldl mapN (D.steps.foldl mapN (D.safe, D.sc)) =D.steps.foldl mapN (D.safe,D.sc):=fold_skip fun y hy=>(leftS_kind (List.mem_of_mem_take hy)).2
   have he':e∈(((leftS p D.steps).take k).foldl mapN (D.steps.foldl mapN (D.safe,D.sc))).1:=he
   rw[e1]at he'
   obtain⟨q,h1,h2⟩:=hg e he'
   exact⟨q,h1,by show q∈psOf (updF D.files p (syncF p D.steps)); rw[hps]; exact h2⟩
 · obtain⟨q, h1, h2⟩:= h.cr.wr x (leftS_kind hx).1 hk
   exact⟨q, h1, by show q ∈ psOf (updF D.files p (syncF p D.steps)); rw[hps]; exact h2⟩
 · have e1:(leftS p D.steps).foldl mapN (D.steps.foldl mapN (D.safe,D.sc))=D.steps.foldl mapN (D.safe,D.sc):=fold_skip fun y hy=>(leftS_kind hy).2
   have h1:=h.same x
   rw[←e1]at h1
   exact h1
def rmS(name:ByteArray):StepD:=⟨2,none,name,noS,0,zeroSec⟩
def rnS(name to:ByteArray):StepD:=⟨1,none,name,to,0,zeroSec⟩
theorem DOk.rm{D:DiskD}(h:DOk D){name:ByteArray}(hs:name.size≤maxLen):DOk (tick (addS D (rmS name))):=
 (h.addS' (x:=rmS name) (stepIn_mk (by decide) (by decide) hs (Nat.zero_le _)) (fun hk=>absurd (show(2:Int)=3 from hk) (by decide)) (fun hk=>absurd (show(2:Int)=0 from hk) (by decide)) (fun hk=>absurd (show(2:Int)=1 from hk) (by decide))).tick'
theorem DOk.rn{D:DiskD}(h:DOk D){name to:ByteArray}(hs:name.size≤maxLen)(ht:to.size≤maxLen)(hf:mfind name D.now≠none):DOk (tick (addS D (rnS name to))):=
 (h.addS' (x:=rnS name to) (stepIn_mk (by decide) (by decide) hs ht) (fun hk=>absurd (show(1:Int)=3 from hk) (by decide)) (fun hk=>absurd (show(1:Int)=0 from hk) (by decide)) (fun _=>hf)).tick'
def SyncR(D:DiskD)(name:ByteArray)(e:Int)(D':DiskD):Prop:=
 (e=71∧mfind name D.now=none∧D'=D)∨(e=70∧mfind name D.now≠none∧Stops D∧D'=stopD D)∨(e=0∧¬Stops D∧∃p,mfind name D.now=some (some p)∧D'=syncD D p)
def RemoveR(D:DiskD)(name:ByteArray)(e:Int)(D':DiskD):Prop:=
 (e=71∧mfind name D.now=none∧D'=D)∨(e=70∧mfind name D.now≠none∧Stops D∧D'=stopD D)∨(e=0∧¬Stops D∧mfind name D.now≠none∧D'=tick (addS D (rmS name)))
def RenameR(D:DiskD)(name to:ByteArray)(e:Int)(D':DiskD):Prop:=
 (e=71∧mfind name D.now=none∧D'=D)∨(e=2∧mfind name D.now≠none∧nmI to≠1∧D'=D)∨(e=70∧mfind name D.now≠none∧nmI to=1∧Stops D∧D'=stopD D)∨
 (e=0∧mfind name D.now≠none∧nmI to=1∧¬Stops D∧((name.toList=to.toList∧D'=tick D)∨(name.toList≠to.toList∧D'=tick (addS D (rnS name to)))))
theorem SyncR.ok{D D':DiskD}{name:ByteArray}{e:Int}(h:DOk D)(hr:SyncR D name e D'):DOk D':=by
 rcases hr with⟨-,-,rfl⟩|⟨-,-,-,rfl⟩|⟨-,-,p,-,rfl⟩
 ·exact h
 ·exact h.stopD'
 ·exact h.syncD' p
theorem RemoveR.ok{D D':DiskD}{name:ByteArray}{e:Int}(h:DOk D)(hs:name.size≤maxLen)(hr:RemoveR D name e D'):DOk D':=by
 rcases hr with⟨-,-,rfl⟩|⟨-,-,-,rfl⟩|⟨-,-,-,rfl⟩
 ·exact h
 ·exact h.stopD'
 ·exact h.rm hs
theorem RenameR.ok{D D':DiskD}{name to:ByteArray}{e:Int}(h:DOk D)(hs:name.size≤maxLen)(ht:to.size≤maxLen)(hr:RenameR D name to e D'):DOk D':=by
 rcases hr with⟨-,-,rfl⟩|⟨-,-,-,rfl⟩|⟨-,-,-,-,rfl⟩|⟨-,hf,-,-,⟨-,rfl⟩|⟨-,rfl⟩⟩
 ·exact h
 ·exact h
 ·exact h.stopD'
 ·exact h.tick'
 ·exact h.rn hs ht hf
theorem crAt_keep{A:NameL×Nat}{fs:List FileD}{steps:List StepD}(h:CrOk A fs steps)(first:Int)(keep:List (BitVec 8)):psOf (crAt first keep A fs steps).fs=psOf fs∧FilesOk (crAt first keep A fs steps).fs:=by
 have key:∀(l:List StepD)(C:CrS),(∀x∈l,StepIn x)→FilesOk C.fs→psOf (l.foldl (crStep first keep) C).fs=psOf C.fs∧FilesOk (l.foldl (crStep first keep) C).fs:=by
  intro l
  induction l with
  |nil=>intro C _ h1;exact⟨rfl,h1⟩
  |cons x l ih=>
   intro C hx h1
   have h2:psOf (crStep first keep C x).fs=psOf C.fs∧FilesOk (crStep first keep C x).fs := by
    unfold crStep
    split
    · show psOf (if bitOf keep C.j = true then updO C.fs x.file (putS x.at_ x.data)else C.fs) =psOf C.fs∧FilesOk (if bitOf keep C.j=true then updO C.fs x.file (putS x.at_ x.data)else C.fs)
      split
      ·cases x.file with
        |none=>exact⟨rfl,h1⟩
        |some p=>exact⟨updF_ps _ _ _ fun _=>rfl,FilesOk.updF h1 fun f hf=>hf.putS (hx x (List.mem_cons_self ..)).2.1 _⟩
      ·exact⟨rfl,h1⟩
    ·exact⟨rfl,h1⟩
   obtain⟨h3,h4⟩:=ih (crStep first keep C x) (fun y hy=>hx y (List.mem_cons_of_mem _ hy)) h2.2
   exact⟨h3.trans h2.1,h4⟩
 exact key steps ⟨A,0,0,fs⟩ h.inn h.files
def firstOf(xs:List (BitVec 8))(n:Nat):Int:=match xs with
 |[]=>0
 |x::_=>((x.toNat:Nat):Int)%((n:Nat)+1)
def crC(D:DiskD)(xs:List (BitVec 8)):CrS:=crAt (firstOf xs (nmC D.steps)) (xs.drop 1) (D.safe,D.sc) D.files D.steps
def crashD(D:DiskD)(xs:List (BitVec 8))(ns:Nat→Nat)(nb:Nat):DiskD:=
 ⟨D.sb,nb,(crC D xs).A.1,(crC D xs).A.2,(crC D xs).A.1,(crC D xs).A.2,crF (crC D xs).fs (crC D xs).A.1 ns,[],false,D.left,false⟩
theorem DOk.crashD'{D:DiskD}(h:DOk D)(xs:List (BitVec 8))(ns:Nat→Nat)(nb:Nat):DOk (crashD D xs ns nb):=by
 obtain⟨k1,k2⟩:=crAt_keep h.cr (firstOf xs (nmC D.steps)) (xs.drop 1)
 obtain⟨m,hm,-⟩:=crAt_A (firstOf xs (nmC D.steps)) (xs.drop 1) (D.safe,D.sc) D.files D.steps
 have hA:MOk (crC D xs).A.1 (crC D xs).A.2:=by unfold crC;rw[hm];exact foldN_ok h.cr.map _
 have hps:psOf (crF (crC D xs).fs (crC D xs).A.1 ns)=psOf D.files:=(crF_ps _ _ _).trans k1
 have hg:∀e∈(crC D xs).A.1,∃p,e.2.1=some p∧p∈psOf D.files:=by unfold crC;rw[hm];exact h.cr.good m
 refine⟨hA,⟨hA,fun k e he=>?_,fun x hx=>(by cases hx),fun x hx=>(by cases hx),FilesOk.crF k2 _ _⟩,fun _=>rfl,hps▸h.nd⟩
 have he':e∈(crC D xs).A.1:=by rwa[show(crashD D xs ns nb).steps=[]from rfl,List.take_nil]at he
 obtain⟨q,h1,h2⟩:=hg e he'
 exact⟨q,h1,by show q∈psOf (crF (crC D xs).fs (crC D xs).A.1 ns);rw[hps];exact h2⟩
section
variable{S:Nat→Prop}{w:World}{O:List Nat}{db:Nat}{D:DiskD}{sa:Option Addr}{sk:Nat}
theorem dSync{name:ByteArray}(hok:DOk D)(hst:D.steps.length≤1000000000)(hd:D.dead=false)(hl:D.armed=true→-9223372036854775808<D.left∧D.left≤9223372036854775807)(H0:Hp w S O (diskM db D sa sk) [diskW D sa sk] [] w):
 Calls Tryz.prog 60 #[.P db 0,.string name] w (DEnd w S O db fun v D'=>∃e,v=.I e∧SyncR D name e D'):=by
 cases hf:mfind name D.now with
 |none=>
  obtain⟨sb,nb,A,lc,L,c,fs,steps,armed,left,dead⟩:=D
  obtain rfl:dead=false:=hd
  refine(sync_none hf ((H0.lend (M1:=[dkB db _ sa sk,(nb,mapO Value.string ptrV L c)]) (W1:=[])).pick [] rfl)).mono fun e w' hh=>?_
  obtain⟨v,he,hv,H'⟩:=hh
  exact⟨v,he,_,sa,sk,⟨71,hv,.inl ⟨rfl,hf,rfl⟩⟩,(H0.back (M1:=[dkB db _ sa sk,(nb,mapO Value.string ptrV L c)]) (W1:=[]) H').pick [] rfl⟩
 |some o=>
  obtain⟨p,rfl,hpm⟩:=hok.valid hf
  by_cases hS : Stops D
  · have hl1 := hl hS.1
    obtain⟨sb, nb, A, lc, L, c, fs, steps, armed, left, dead⟩:= D
    obtain rfl : dead = false := hd
    obtain⟨ha,hlt⟩:=hS
    obtain rfl:armed=true:=ha
    refine(sync_stop ⟨hlt,hl1.1⟩ hf ((H0.lend (M1:=[dkB db _ sa sk,(nb,mapO Value.string ptrV L c)]) (W1:=[])).pick [] rfl)).mono fun e w' hh=>?_
    obtain⟨v,he,hv,H'⟩:=hh
    exact⟨v,he,_,sa, sk, ⟨70, hv, .inr (.inl ⟨rfl, fun hh => (by rw[hf]at hh; cases hh), ⟨rfl, hlt⟩, rfl⟩)⟩, (H0.back (M1 := [dkB db _ sa sk, (nb, mapO Value.string ptrV L c)]) (W1 := []) H').pick [] rfl⟩
  · have hgo := go_of hS fun ha => (hl ha).2
    have hnd:=hok.nd
    have hwr:=hok.cr.wr
    have hinn:=hok.cr.inn
    obtain⟨sb,nb,A,lc,L,c,fs,steps,armed,left,dead⟩:=D
    obtain rfl:dead=false:=hd
    obtain⟨i,f,hi,hfp⟩:=ps_at hpm
    obtain⟨fp,s,n,X,xc,Y,yc,size⟩:=f
    obtain rfl:fp=p:=hfp
    have H1:Hp w S O (dkB db ⟨sb,nb,A,lc,L,c,fs,steps,armed,left,false⟩ sa sk::(nb,mapO Value.string ptrV L c)::(sb,mapO Value.string ptrV A lc)::(fileH ⟨fp,s,n,X,xc,Y,yc,size⟩++filesH (fs.eraseIdx i))) [diskW ⟨sb,nb,A,lc,L,c,fs,steps,armed,left,false⟩ sa sk] [] w:=
     H0.perms ((((filesH_pick hi).symm.cons _).cons _).cons _) (List.Perm.refl _)
    have hv:∀x∈steps,x.kind=3→∃q,x.file=some q∧(q=fp∨∃f∈fs.eraseIdx i,f.p=q):=fun x hx hk=>by
     obtain⟨q,h1,h2⟩:=hwr x hx hk
     refine⟨q, h1, ?_⟩
     obtain⟨f, hf, hfq⟩:= List.mem_map.1 h2
     obtain⟨j, hj, hje⟩:= List.mem_iff_getElem.1 hf
     by_cases hji : j = i
     · subst hji
       have : f =⟨fp, s, n, X, xc, Y, yc,size⟩:=by rw[←hje];exact(List.getElem?_eq_some_iff.1 hi).2
       rw[this]at hfq
       exact .inl hfq.symm
     ·exact .inr ⟨f,List.mem_eraseIdx_iff_getElem?.2 ⟨j,hji,by rw[List.getElem?_eq_getElem hj,hje]⟩,hfq⟩
    refine(sync_go hst hgo hf hv hinn H1).mono fun e w' hh=>?_
    obtain⟨v,he,hv,sa',sk',H'⟩:=hh
    have hu:=updF_set (g:=syncF fp steps) hnd hi rfl
    have H4:Hp w S O (diskM db (syncD ⟨sb,nb,A,lc,L,c,fs,steps,armed,left,false⟩ fp) sa' sk') [diskW (syncD ⟨sb,nb,A,lc,L,c,fs,steps,armed,left,false⟩ fp) sa' sk'] [] w':=
     H'.perms ((((by show(filesH (updF fs fp (syncF fp steps))).Perm _;rw[hu];exact filesH_put _ (List.getElem?_eq_some_iff.1 hi).1:(filesH (updF fs fp (syncF fp steps))).Perm (fileH (syncF fp steps ⟨fp,s,n,X,xc,Y,yc,size⟩)++filesH (fs.eraseIdx i))).cons _).cons _).cons _) (List.Perm.refl _)
    exact⟨v,he,_,sa',sk',⟨0,hv,.inr (.inr ⟨rfl,hS,fp,hf,rfl⟩)⟩,H4⟩
theorem dRemove{name:ByteArray}(hok:DOk D)(hst:D.steps.length≤1000000000)(hd:D.dead=false)(hs:name.size≤maxLen)(hl:D.armed=true→-9223372036854775808<D.left∧D.left≤9223372036854775807)(H0:Hp w S O (diskM db D sa sk) [diskW D sa sk] [] w):
 Calls Tryz.prog 113 #[.P db 0,.string name] w (DEnd w S O db fun v D'=>∃e,v=.I e∧RemoveR D name e D'):=by
 cases hf:mfind name D.now with
 |none=>
  obtain⟨sb,nb,A,lc,L,c,fs,steps,armed,left,dead⟩:=D
  obtain rfl:dead=false:=hd
  refine(remove_none hf ((H0.lend (M1:=[dkB db _ sa sk,(nb,mapO Value.string ptrV L c)]) (W1:=[])).pick [] rfl)).mono fun e w' hh=>?_
  obtain⟨v,he,hv,H'⟩:=hh
  exact⟨v,he,_,sa,sk,⟨71,hv,.inl ⟨rfl,hf,rfl⟩⟩,(H0.back (M1:=[dkB db _ sa sk,(nb,mapO Value.string ptrV L c)]) (W1:=[]) H').pick [] rfl⟩
 |some o=>
  obtain⟨p,rfl, hpm⟩:= hok.valid hf
  by_cases hS : Stops D
  · have hl1 := hl hS.1
    obtain⟨sb, nb, A, lc, L, c, fs, steps,armed,left,dead⟩:=D
    obtain rfl:dead=false:=hd
    obtain⟨ha,hlt⟩:=hS
    obtain rfl:armed=true:=ha
    refine(remove_stop ⟨hlt,hl1.1⟩ hf ((H0.lend (M1:=[dkB db _ sa sk,(nb,mapO Value.string ptrV L c)]) (W1:=[])).pick [] rfl)).mono fun e w' hh=>?_
    obtain⟨v,he,hv,H'⟩:=hh
    exact⟨v,he,_,sa,sk,⟨70,hv,.inr (.inl ⟨rfl,fun hh=> (by rw[hf]at hh; cases hh), ⟨rfl, hlt⟩, rfl⟩)⟩, (H0.back (M1 := [dkB db _ sa sk, (nb, mapO Value.string ptrV L c)]) (W1 := []) H').pick [] rfl⟩
  · have hgo :=go_of hS fun ha=>(hl ha).2
    obtain⟨sb,nb,A,lc,L,c,fs,steps,armed,left,dead⟩:=D
    obtain rfl:dead=false:=hd
    refine(remove_go hst hgo hf hs ((H0.lend (M1:=[dkB db _ sa sk,(nb,mapO Value.string ptrV L c)]) (W1:=[diskW _ sa sk])).pick [] rfl)).mono fun e w' hh=>?_
    obtain⟨v,he,hv,sa',sk',H'⟩:=hh
    exact⟨v,he,_,sa',sk',⟨0,hv,.inr (.inr ⟨rfl,hS,fun hh=>(by rw[hf]at hh;cases hh),rfl⟩)⟩,(H0.back (M1:=[dkB db _ sa sk,(nb,mapO Value.string ptrV L c)]) (W1:=[diskW _ sa sk]) H').pick [] rfl⟩
theorem dRename{name to:ByteArray}(hok:DOk D)(hst:D.steps.length≤1000000000)(hd:D.dead=false)(hs:name.size≤maxLen)(ht:to.size≤maxLen)(hl:D.armed=true→-9223372036854775808<D.left∧D.left≤9223372036854775807)(H0:Hp w S O (diskM db D sa sk) [diskW D sa sk] [] w):
 Calls Tryz.prog 114 #[.P db 0,.string name,.string to] w (DEnd w S O db fun v D'=>∃e,v=.I e∧RenameR D name to e D'):=by
 cases hf:mfind name D.now with
 |none=>
  obtain⟨sb,nb,A,lc,L,c,fs,steps,armed,left,dead⟩:=D
  obtain rfl:dead=false:=hd
  refine(rename_none hf ((H0.lend (M1:=[dkB db _ sa sk,(nb,mapO Value.string ptrV L c)]) (W1:=[])).pick [] rfl)).mono fun e w' hh=>?_
  obtain⟨v,he,hv,H'⟩:=hh
  exact⟨v,he,_,sa,sk,⟨71,hv,.inl ⟨rfl,hf,rfl⟩⟩,(H0.back (M1:=[dkB db _ sa sk,(nb,mapO Value.string ptrV L c)]) (W1:=[]) H').pick [] rfl⟩
 |some o=>
  obtain⟨p,rfl,hpm⟩:=hok.valid hf
  have hne:mfind name D.now ≠ none := fun hh => (by rw[hf]at hh; cases hh)
  by_cases hto : nmI to = 1
  · by_cases hS : Stops D
    · have hl1 := hl hS.1
      obtain⟨sb, nb, A, lc, L,c,fs,steps,armed,left,dead⟩:=D
      obtain rfl:dead=false:=hd
      obtain⟨ha,hlt⟩:=hS
      obtain rfl:armed=true:=ha
      refine(rename_stop ⟨hlt,hl1.1⟩ hf ht hto ((H0.lend (M1:=[dkB db _ sa sk,(nb,mapO Value.string ptrV L c)]) (W1:=[])).pick [] rfl)).mono fun e w' hh=>?_
      obtain⟨v,he,hv,H'⟩:=hh
      exact⟨v,he,_,sa,sk,⟨70,hv,.inr (.inr (.inl ⟨rfl,hne, hto, ⟨rfl, hlt⟩, rfl⟩))⟩, (H0.back (M1 := [dkB db _ sa sk, (nb, mapO Value.string ptrV L c)]) (W1 := []) H').pick [] rfl⟩
    · have hgo := go_of hS fun ha => (hl ha).2
      by_cases hft : name.toList = to.toList
      · obtain⟨sb, nb, A, lc, L, c, fs, steps, armed, left, dead⟩:= D
        obtain rfl : dead = false := hd
        refine(rename_same hgo hf ht hto hft ((H0.lend (M1 := [dkB db _ sa sk, (nb,mapO Value.string ptrV L c)]) (W1:=[])).pick [] rfl)).mono fun e w' hh=>?_
        obtain⟨v,he,hv,H'⟩:=hh
        exact⟨v,he,_,sa,sk,⟨0,hv,.inr (.inr (.inr ⟨rfl,hne,hto,hS,.inl ⟨hft,rfl⟩⟩))⟩, (H0.back (M1 := [dkB db _ sa sk, (nb, mapO Value.string ptrV L c)]) (W1 := []) H').pick [] rfl⟩
      · obtain⟨sb, nb, A, lc, L, c, fs, steps, armed, left, dead⟩:= D
        obtain rfl : dead=false:=hd
        refine(rename_go hst hgo hf hs ht hto hft ((H0.lend (M1:=[dkB db _ sa sk,(nb,mapO Value.string ptrV L c)]) (W1:=[diskW _ sa sk])).pick [] rfl)).mono fun e w' hh=>?_
        obtain⟨v,he,hv,sa',sk',H'⟩:=hh
        exact⟨v,he,_,sa', sk', ⟨0, hv, .inr (.inr (.inr ⟨rfl, hne, hto, hS, .inr ⟨hft, rfl⟩⟩))⟩, (H0.back (M1 := [dkB db _ sa sk, (nb, mapO Value.string ptrV L c)]) (W1 := [diskW _ sa sk]) H').pick [] rfl⟩
  · obtain⟨sb, nb, A, lc, L,c,fs,steps,armed,left,dead⟩:=D
    obtain rfl:dead=false:=hd
    refine(rename_bad hf ht hto ((H0.lend (M1:=[dkB db _ sa sk,(nb,mapO Value.string ptrV L c)]) (W1:=[])).pick [] rfl)).mono fun e w' hh=>?_
    obtain⟨v,he,hv,H'⟩:=hh
    exact⟨v,he,_,sa,sk,⟨2,hv,.inr (.inl ⟨rfl,hne,hto,rfl⟩)⟩,(H0.back (M1:=[dkB db _ sa sk,(nb,mapO Value.string ptrV L c)]) (W1:=[]) H').pick [] rfl⟩
theorem DOk.file{D:DiskD}(h:DOk D){x:ByteArray}{o:Option Nat}(hx:mfind x D.now=some o):∃(i:Nat)(f:FileD),o=some f.p∧D.files[i]?=some f:=by
 obtain⟨p,rfl,hp⟩:=h.valid hx
 obtain⟨i,f,hi,rfl⟩:=ps_at hp
 exact⟨i,f,rfl,hi⟩
theorem dSize{name:ByteArray}(hok:DOk D)(hd:D.dead=false)(H0:Hp w S O (diskM db D sa sk) [diskW D sa sk] [] w):
 Calls Tryz.prog 49 #[.P db 0,.string name] w (Ret fun v w'=>((v=.tuple #[.I 0,.I 71]∧mfind name D.now=none)∨∃f∈D.files,mfind name D.now=some (some f.p)∧v=.tuple #[.I f.size,.I 0])∧Hp w S O (diskM db D sa sk) [diskW D sa sk] [] w'):=by
 cases hf:mfind name D.now with
 |none=>
  obtain⟨sb,nb,A,lc,L,c,fs,steps,armed,left,dead⟩:=D
  obtain rfl:dead=false:=hd
  refine(size_none hf ((H0.lend (M1:=[dkB db _ sa sk,(nb,mapO Value.string ptrV L c)]) (W1:=[])).pick [] rfl)).mono fun e w' hh=>?_
  obtain⟨v,he,hv,H'⟩:=hh
  exact⟨v,he,.inl ⟨hv,rfl⟩,(H0.back (M1:=[dkB db _ sa sk,(nb,mapO Value.string ptrV L c)]) (W1:=[]) H').pick [] rfl⟩
 |some o=>
  obtain⟨i,f,rfl,hi⟩:=hok.file hf
  obtain⟨sb,nb,A,lc,L,c,fs,steps,armed,left,dead⟩:=D
  obtain rfl:dead=false:=hd
  obtain⟨fp,s,n,X,xc,Y,yc,size⟩:=f
  have H1:Hp w S O ([dkB db ⟨sb,nb,A,lc,L,c,fs,steps,armed,left,false⟩ sa sk,(nb,mapO Value.string ptrV L c),(fp,.cells #[.map (some s),.map (some n),.I size] 147 (0,0))]++((sb,mapO Value.string ptrV A lc)::(s,mapO (Value.int .i64) secVal X xc)::(n,mapO (Value.int .i64) secVal Y yc)::filesH (fs.eraseIdx i))) [diskW ⟨sb,nb,A,lc,L,c,fs,steps,armed,left,false⟩ sa sk] [] w:=
   H0.perms ((((List.Perm.swap _ _ _).trans ((filesH_pick hi).symm.cons _)).cons _).cons _) (List.Perm.refl _)
  refine(size_some hf ((H1.lend (W1:=[]) (M1:=[dkB db ⟨sb,nb,A,lc,L,c,fs,steps,armed,left,false⟩ sa sk,(nb,mapO Value.string ptrV L c),(fp,.cells #[.map (some s),.map (some n),.I size] 147 (0,0))])).pick [] rfl)).mono fun e w' hh=>?_
  obtain⟨v,he,hv,H'⟩:=hh
  have H3:=(H1.back (W1:=[]) (M1:=[dkB db ⟨sb,nb,A,lc,L,c,fs,steps,armed,left,false⟩ sa sk,(nb,mapO Value.string ptrV L c),(fp,.cells #[.map (some s),.map (some n),.I size] 147 (0,0))]) H').pick [] rfl
  exact⟨v,he,.inr ⟨_,List.mem_of_getElem? hi,rfl,hv⟩,H3.perms ((((List.Perm.swap _ _ _).trans ((filesH_pick hi).symm.cons _)).cons _).cons _).symm (List.Perm.refl _)⟩
def rOk(D:DiskD)(name:ByteArray)(at_:Int)(v:Value)(zx:Option Sec):Prop:=
 match zx with
 |none=>∃e:Int,e≠0∧v=.tuple #[.slice none 0 0,.I e]∧((mfind name D.now=none∧e=71)∨∃f∈D.files,mfind name D.now=some (some f.p)∧(at_<0∨f.size≤at_)∧e=2)
 |some x=>∃f∈D.files,mfind name D.now=some (some f.p)∧0≤at_∧at_<f.size∧x=(mfind at_ f.now).getD zeroSec
theorem dRead{name:ByteArray}{at_:Int}(hok:DOk D)(hd:D.dead=false)(H0:Hp w S O (diskM db D sa sk) [diskW D sa sk] [] w):
 Calls Tryz.prog 159 #[.P db 0,.string name,.I at_] w (Ret fun v w'=>(rOk D name at_ v none∧Hp w S O (diskM db D sa sk) [diskW D sa sk] [] w')∨
  ∃(x:Sec)(a':Option Addr)(c':Nat),rOk D name at_ v (some x)∧v=.tuple #[.slice a' (secL x).length c',.I 0]∧Hp w S O (diskM db D sa sk) [⟨Sb,5,.slice a' (secL x).length c',secL x⟩,diskW D sa sk] [] w'):=by
 cases hf:mfind name D.now with
 |none=>
  obtain⟨sb,nb,A,lc,L,c,fs,steps,armed,left,dead⟩:=D
  obtain rfl:dead=false:=hd
  refine(read_none hf at_ ((H0.lend (M1:=[dkB db _ sa sk,(nb,mapO Value.string ptrV L c)]) (W1:=[])).pick [] rfl)).mono fun e w' hh=>?_
  obtain⟨v,he,hv,H'⟩:=hh
  exact⟨v,he,.inl ⟨⟨71,by decide,hv,.inl ⟨hf,rfl⟩⟩,(H0.back (M1:=[dkB db _ sa sk,(nb,mapO Value.string ptrV L c)]) (W1:=[]) H').pick [] rfl⟩⟩
 |some o=>
  obtain⟨i,f,rfl,hi⟩:=hok.file hf
  obtain⟨sb,nb,A,lc,L,c,fs,steps,armed,left,dead⟩:=D
  obtain rfl:dead=false:=hd
  obtain⟨fp,s,n,X,xc,Y,yc, size⟩:= f
  by_cases hat : 0 ≤ at_ ∧ at_ < size
  · have hp4 : ((fp, Obj.cells #[.map (some s), .map (some n), .I size] 147 (0, 0)) :: (n, mapO (Value.int .i64) secVal Y yc) :: (sb, mapO Value.string ptrV A lc)::(s,mapO (Value.int .i64) secVal X xc)::filesH (fs.eraseIdx i):Heap).Perm ((sb,mapO Value.string ptrV A lc)::filesH fs):=
     ((((List.Perm.swap _ _ _).trans ((List.Perm.swap _ _ _).cons _)).cons _).trans (List.Perm.swap _ _ _)).trans ((filesH_pick hi).symm.cons _)
    have H1:Hp w S O ([dkB db ⟨sb,nb,A,lc,L,c,fs,steps,armed,left,false⟩ sa sk,(nb,mapO Value.string ptrV L c),(fp,.cells #[.map (some s),.map (some n),.I size] 147 (0,0)),(n,mapO (Value.int .i64) secVal Y yc)]++((sb,mapO Value.string ptrV A lc)::(s,mapO (Value.int .i64) secVal X xc)::filesH (fs.eraseIdx i))) [diskW ⟨sb,nb,A,lc,L,c,fs,steps,armed,left,false⟩ sa sk] [] w:=
     H0.perms ((hp4.cons _).cons _) (List.Perm.refl _)
    refine(read_some hf hat ((H1.lend (W1:=[]) (M1:=[dkB db ⟨sb,nb,A,lc,L,c,fs,steps,armed,left,false⟩ sa sk,(nb,mapO Value.string ptrV L c),(fp,.cells #[.map (some s),.map (some n),.I size] 147 (0,0)),(n,mapO (Value.int .i64) secVal Y yc)])).pick [] rfl)).mono fun e w' hh=>?_
    obtain⟨v,he,a',c',hv,H'⟩:=hh
    have H3:=(H1.back (W1:=[]) (M1:=[dkB db ⟨sb,nb,A,lc,L,c,fs,steps,armed,left,false⟩ sa sk,(nb,mapO Value.string ptrV L c),(fp,.cells #[.map (some s),.map (some n),.I size] 147 (0,0)),(n,mapO (Value.int .i64) secVal Y yc)]) H').pick [] rfl
    exact⟨v,he,.inr ⟨_,a',c',⟨_,List.mem_of_getElem? hi,hf,hat.1, hat.2, rfl⟩, hv, H3.perms ((hp4.cons _).cons _).symm (List.Perm.refl _)⟩⟩
  · have H1 : Hp w S O ([dkB db ⟨sb, nb, A, lc, L, c, fs, steps, armed, left, false⟩ sa sk, (nb, mapO Value.string ptrV L c), (fp, .cells #[.map (some s), .map (some n), .I size] 147 (0,0))]++((sb,mapO Value.string ptrV A lc)::(s,mapO (Value.int .i64) secVal X xc)::(n,mapO (Value.int .i64) secVal Y yc)::filesH (fs.eraseIdx i))) [diskW ⟨sb,nb,A,lc,L,c,fs,steps,armed,left,false⟩ sa sk] [] w:=
     H0.perms ((((List.Perm.swap _ _ _).trans ((filesH_pick hi).symm.cons _)).cons _).cons _) (List.Perm.refl _)
    have hat':at_<0∨size≤at_:=by omega
    refine(read_out hf hat' ((H1.lend (W1:=[]) (M1:=[dkB db ⟨sb,nb,A,lc,L,c,fs,steps,armed,left,false⟩ sa sk,(nb,mapO Value.string ptrV L c),(fp,.cells #[.map (some s),.map (some n),.I size] 147 (0,0))])).pick [] rfl)).mono fun e w' hh=>?_
    obtain⟨v,he,hv,H'⟩:=hh
    have H3:=(H1.back (W1:=[]) (M1:=[dkB db ⟨sb,nb,A,lc,L,c,fs,steps,armed,left,false⟩ sa sk,(nb,mapO Value.string ptrV L c),(fp,.cells #[.map (some s),.map (some n),.I size] 147 (0,0))]) H').pick [] rfl
    exact⟨v,he,.inl ⟨⟨2,by decide,hv,.inr ⟨_,List.mem_of_getElem? hi,hf,hat',rfl⟩⟩,H3.perms ((((List.Perm.swap _ _ _).trans ((filesH_pick hi).symm.cons _)).cons _).cons _).symm (List.Perm.refl _)⟩⟩
theorem dCrash{xs:List (BitVec 8)}{a:Option Addr}{ca:Nat}(hok:DOk D)(hst:D.steps.length≤1000000000)(hx:0<xs.length)(H0:Hp w S O (diskM db D sa sk) [diskW D sa sk] [Rp SB [.slice a xs.length ca] xs] w):
 Calls Tryz.prog 25 #[.P db 0,.slice a xs.length ca] w (Ret fun v w'=>v=.tuple #[]∧∃(ns:Nat→Nat)(nb:Nat),Hp w S O (diskM db (crashD D xs ns nb) none 0) [diskW (crashD D xs ns nb) none 0] [] w'):=by
 obtain⟨sb,nb,A,lc,L,c,fs,steps,armed,left,dead⟩:=D
 refine(crash_some hx hst hok.cr H0).mono fun e w' hh=>?_
 obtain⟨v,he,hv,C,ns,nb2,hC,H'⟩:=hh
 have hf:((((xs[0]'hx).toNat:Nat):Int)%(((nmC steps:Nat):Int)+1))=firstOf xs (nmC steps):=by
  cases xs with
  |nil=>simp at hx
  |cons x xs=>rfl
 rw[hf]at hC
 subst hC
 exact⟨v,he,hv,ns,nb2,H'⟩
theorem dCrashE{a:Option Addr}{ca:Nat}(hok:DOk D)(hst:D.steps.length≤1000000000)(H0:Hp w S O (diskM db D sa sk) [diskW D sa sk] [] w):
 Calls Tryz.prog 25 #[.P db 0,.slice a 0 ca] w (Ret fun v w'=>v=.tuple #[]∧∃(ns:Nat→Nat)(nb:Nat),Hp w S O (diskM db (crashD D [] ns nb) none 0) [diskW (crashD D [] ns nb) none 0] [] w'):=by
 obtain⟨sb,nb,A,lc,L,c,fs,steps,armed,left,dead⟩:=D
 refine(crash_nil hst hok.cr H0).mono fun e w' hh=>?_
 obtain⟨v,he,hv,C,ns,nb2,hC,H'⟩:=hh
 subst hC
 exact⟨v,he,hv,ns,nb2,H'⟩
theorem dCrash0(hok:DOk D)(hst:D.steps.length≤1000000000)(H0:Hp w S O (diskM db D sa sk) [diskW D sa sk] [] w):
 Calls Tryz.prog 25 #[.P db 0,.slice none 0 0] w (Ret fun v w'=>v=.tuple #[]∧∃(ns:Nat→Nat)(nb:Nat),Hp w S O (diskM db (crashD D [] ns nb) none 0) [diskW (crashD D [] ns nb) none 0] [] w'):=dCrashE hok hst H0
theorem dCrashAny{xs:List (BitVec 8)}{a:Option Addr}{ca:Nat}(hok:DOk D)(hst:D.steps.length≤1000000000)(H0:Hp w S O (diskM db D sa sk) [diskW D sa sk] [Rp SB [.slice a xs.length ca] xs] w):
 Calls Tryz.prog 25 #[.P db 0,.slice a xs.length ca] w (Ret fun v w'=>v=.tuple #[]∧∃(ns:Nat→Nat)(nb:Nat),Hp w S O (diskM db (crashD D xs ns nb) none 0) [diskW (crashD D xs ns nb) none 0] [] w'):=by
 cases xs with
 |nil=>exact dCrashE hok hst (H0.pick [] rfl)
 |cons x xs=>exact dCrash hok hst (by simp) H0
end
end Go.Proofs.YtdnibpclkhenmaaGreatDoor
