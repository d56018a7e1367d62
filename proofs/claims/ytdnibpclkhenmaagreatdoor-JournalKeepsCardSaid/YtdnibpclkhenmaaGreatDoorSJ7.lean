import Derived.Test.YtdnibpclkhenmaaGreatDoorSBxA
import Derived.Test.YtdnibpclkhenmaaGreatDoorSJ6
import Derived.Test.YtdnibpclkhenmaaGreatDoorSJ5
import Derived.Test.YtdnibpclkhenmaaGreatDoorSH2
namespace Go.Proofs.YtdnibpclkhenmaaGreatDoor
open Go.BX
theorem rd_none{g:Nat→Sec}{sz i:Nat}(hi:i<sz)(hc:63<cntS (g i)):readG g (sz-i) i=[]:=by
 obtain⟨m,hm⟩:∃m,sz-i=m+1:=⟨sz-i-1,by omega⟩
 rw[hm,readG,if_pos hc]
theorem rd_one{g:Nat→Sec}{sz i:Nat}(hi:i<sz)(hc:cntS (g i)≤63):readG g (sz-i) i=bytesS (g i) (cntS (g i))++if cntS (g i)<63 then[]else readG g (sz-(i+1)) (i+1):=by
 obtain⟨m,hm⟩:∃m,sz-i=m+1:=⟨sz-i-1,by omega⟩
 rw[hm,readG,if_neg (by omega),show sz-(i+1)=m by omega]
theorem rd_last{g:Nat→Sec}{outs:Bs}{sz i:Nat}(hi:i<sz)(hc:cntS (g i)≤63)(h3:cntS (g i)<63):outs++readG g (sz-i) i=outs++bytesS (g i) (cntS (g i)):=by
 rw[rd_one hi hc,if_pos h3,List.append_nil]
theorem rd_more{g:Nat→Sec}{outs z:Bs}{sz i:Nat}(h:outs++readG g (sz-i) i=z)(hi:i<sz)(hc:cntS (g i)=63):(bytesS (g i) (cntS (g i))).length=63∧(outs++bytesS (g i) (cntS (g i)))++readG g (sz-(i+1)) (i+1)=z:=by
 refine⟨?_,by rw[←h,rd_one hi (by omega),if_neg (by omega),List.append_assoc]⟩
 unfold bytesS
 rw[List.length_take,List.length_drop,secL_len];omega
theorem rd_bytes(s:Sec):List.drop 1 (List.take (1+(s 0).toNat) (secL s))=bytesS s (cntS s):=by
 unfold bytesS cntS
 rw[List.drop_take,Nat.add_sub_cancel_left]
theorem rd_blen(s:Sec):(bytesS s (cntS s)).length≤63:=by
 unfold bytesS
 rw[List.length_take,List.length_drop,secL_len];omega
set_option maxHeartbeats 1000000 in
theorem jread_spec{S:Nat→Prop}{w:World}{O:List Nat}{jb db:Nat}{nm:ByteArray}{x2 x3 x4 x5 x6 x7:Value}{D0:DiskD}{sa0:Option Addr}{sk0:Nat}{x:ByteArray}{f:FileD}{sz:Nat}(hr:Rdy D0)(hf:f∈D0.files)(hn:mfind x D0.now=some (some f.p))(hsz:f.size=(sz:Int))(hsz6:sz≤65536)(H0:Hp w S O ((jb,.cells #[.P db 0,.string nm,x2,x3,x4,x5,x6,x7] 41 (0,0))::diskM db D0 sa0 sk0) [⟨stepS,143,.slice sa0 D0.steps.length sk0,D0.steps⟩] [] w):
 Calls Tryz.prog 107 #[.P jb 0,.string x] w (Ret fun v w'=>∃(a':Option Addr)(c':Nat),v=.tuple #[.slice a' (readG (gX f.now) sz 0).length c',.nilIface]∧Hp w S O ((jb,.cells #[.P db 0,.string nm,x2,x3,x4,x5,x6,x7] 41 (0,0))::diskM db D0 sa0 sk0) [⟨Sb,5,.slice a' ((readG (gX f.now) sz 0).length) c',readG (gX f.now) sz 0⟩,⟨stepS,143,.slice sa0 D0.steps.length sk0,D0.steps⟩] [] w'):=by
 refine uS1 Tryz.func107 ?_
 have H:=H0
 refine uR 3 [.c [1,0],.c [2]] ?_
 refine qG (sq 0 11) ?_
 refine uP 3 ?_
 refine uV 24 0 (H.cells 0 rfl) ?_
 refine uP 1 ?_
 have H:=H.gat 0 1
 refine uKS ((dSizeN hr.di.ok hr.dead hf hn hsz) ((H.lend (M1:=(diskM _ _ _ _)) (W1:=[_])).pick [] rfl)) ?_
 rintro _ _⟨rfl,H'⟩
 have H:=H.back (M1:=(diskM _ _ _ _)) (W1:=[_]) H'
 have H:=H.ung 0
 have H:Hp w S O (_::(diskM db D0 sa0 sk0)) [_] [] _:=H
 refine uF 5 ?_
 refine uR 11 [.c [4,0,1,0],.b 0,.c [5]] ?_
 have H:=H.ownNil Sb 5
 have H:=H.drop (M':=((jb,.cells #[.P db 0,.string nm,x2,x3,x4,x5,x6,x7] 41 (0,0))::(diskM db D0 sa0 sk0))) (W':=[⟨Sb,5,.slice none ([]:List (BitVec 8)).length 0,([]:List (BitVec 8))⟩,⟨stepS,143,.slice sa0 D0.steps.length sk0,D0.steps⟩]) (by repeat(first|exact List.Sublist.refl _|exact List.nil_sublist _|apply List.Sublist.cons_cons|apply List.Sublist.cons)) (by repeat(first|exact List.Sublist.refl _|exact List.nil_sublist _|apply List.Sublist.cons_cons|apply List.Sublist.cons))
 refine uL (α:=Nat×List (BitVec 8)×Option Addr×Nat) (g:=107) (p:=[4,0,1,0,0]) (fun(i,outs,aO,cO)=>[(0,.P jb 0),(1,.string x),(8,.slice aO outs.length cO),(26,.I sz),(27,.I i)]) (fun(i,outs,aO,cO)w'=>Hp w S O ((jb,.cells #[.P db 0,.string nm,x2,x3,x4,x5,x6,x7] 41 (0,0))::(diskM db D0 sa0 sk0)) [⟨Sb,5,.slice aO outs.length cO,outs⟩,⟨stepS,143,.slice sa0 D0.steps.length sk0,D0.steps⟩] [] w'∧i≤sz∧outs.length≤63*i∧outs++readG (gX f.now) (sz-i) i=readG (gX f.now) sz 0) (fun(i,outs,aO,cO)=>sz-i) (0,([]:List (BitVec 8)),none,0) ⟨H,Nat.zero_le _,Nat.le_refl _,rfl⟩ ?_
 rintro⟨i,outs,aO,cO⟩_⟨H,⟨hi,hol,hrd⟩⟩k
 have hcn:cntS (gX f.now i)=((gX f.now i) 0).toNat:=rfl
 have z:=rd_blen (gX f.now i)
 refine uR 3 [.c [4,0,1,0,0,1,0],.c [4,0,1,0,0,2],.l [4,0,1,0,0],.b 0,.c [5]] ?_
 refine qD (((i:Int):Int)<(sz:Int)) (fun A=>?_) (fun A=>?_)
 ·
  refine uR 6 [.c [4,0,1,0,0,2,0,0,1,0],.c [4,0,1,0,0,2,0,0,2],.b 1,.c [4,0,1,0,0,3],.l [4,0,1,0,0],.b 0,.c [5]] ?_
  refine qG (sq 0 12) ?_
  refine uP 3 ?_
  refine uV 24 0 (H.cells 0 rfl) ?_
  refine uP 2 ?_
  have H:=H.frontW 1 rfl
  have H:=H.gat 0 1
  refine RW.callS (d:=some 37) (r:=(sq 7 12)) (g:=159) (args:=#[.P db 0,.string x,.I i]) (by as_aux_lemma=>kernel_rfl) ((dReadHit hr.di.ok hr.dead hf hn ⟨by omega,by rw[hsz];omega⟩) ((H.lend (M1:=(diskM _ _ _ _)) (W1:=[_])).pick [] rfl)) ?_
  rintro _ _⟨n,m,rfl,H'⟩
  have H:=H.back (M1:=(diskM _ _ _ _)) (W1:=[_]) H'
  have H:=H.ung 0
  have H:Hp w S O (_::_) [⟨Sb,5,.slice n ((secL (gX f.now i)).length) m,(secL (gX f.now i))⟩,_,_] [] _:=H
  have H:Hp w S O (_::_) [_,_] [Rp SB [.slice n ((secL (gX f.now i)).length) m] (secL (gX f.now i))] _:=H.freezeW 0 rfl
  refine uF 5 ?_
  refine uR 6 [.c [4,0,1,0,0,2,0,0,3,0],.c [4,0,1,0,0,2,0,0,4],.b 1,.c [4,0,1,0,0,3],.l [4,0,1,0,0],.b 0,.c [5]] ?_
  refine qG (sq 0 5) ?_
  refine uP 1 ?_
  have C:0<(secL (gX f.now i)).length:=by rw[secL_len];decide
  refine uX 23 0 H 0 rfl 0 (by omega) (rfl) ?_
  intro B q _ o H
  obtain rfl:=o
  refine uV 5 0 (H.fc 0 rfl) ?_
  refine RW.pv (κ:=.seq) (d:=some 47) (r:=(sq 4 5)) (v:=.I (IntKind.i64.wrap (((((gX f.now i) 0).toNat:Nat):Int)))) (v':=.I ((((gX f.now i) 0).toNat:Nat):Int)) (by as_aux_lemma=>kernel_rfl) (bv_i648 _ (by have:=(((gX f.now i) 0)).isLt;omega)) ?_
  refine uF 1 ?_
  refine uR 3 [.c [4,0,1,0,0,2,0,0,4,0,1],.c [4,0,1,0,0,2,0,0,5],.b 1,.c [4,0,1,0,0,3],.l [4,0,1,0,0],.b 0,.c [5]] ?_
  refine qD ((((((gX f.now i) 0).toNat:Nat):Int):Int)>63) (fun s=>?_) (fun s=>?_)
  ·
   refine uR 3 [.c [6]] ?_
   refine qT (.tuple #[.slice aO outs.length cO,.nilIface]) Tryz.func107 ?_
   have H:=H.frontW 1 rfl
   have H:=H.pick [] rfl
   have hfin:outs=readG (gX f.now) sz 0:=by
    rw[←hrd,rd_none (by omega) (by omega),List.append_nil]
   rw[hfin]at H
   exact⟨_,rfl,_,_,by rw[hfin],H⟩
  ·
   refine uR 2 [.c [4,0,1,0,0,2,0,0,5,0],.c [4,0,1,0,0,2,0,0,6],.b 1,.c [4,0,1,0,0,3],.l [4,0,1,0,0],.b 0,.c [5]] ?_
   refine qG (sq 0 7) ?_
   refine uP 3 ?_
   refine uI (1+((((gX f.now i) 0).toNat:Nat):Int)) ?_
   refine RW.slice (κ:=.seq) (d:=some 54) (r:=(sq 5 7)) (T:=23) (e:=5) (sh:=Sb) (a:=n) (len:=((secL (gX f.now i)).length)) (cap:=m) (zs:=(((secL (gX f.now i)).take (1+((gX f.now i) 0).toNat)).drop 1)) (lv:=(some (.I 1))) (hv:=(some (.I (1+((((gX f.now i) 0).toNat:Nat):Int))))) (by as_aux_lemma=>kernel_rfl) (by as_aux_lemma=>kernel_rfl) H 1 rfl 1 (1+((gX f.now i) 0).toNat) (.mk (by omega)) (.mk (by omega)) (by first|omega|(rw[secL_len];omega)) (by first|omega|(rw[secL_len];omega)) (rfl) ?_
   intro t H
   refine uA 23 23 1 (outs++bytesS (gX f.now i) (cntS (gX f.now i))) H 1 rfl 0 rfl (by rw[rd_bytes]) (by rw[List.length_append];omega) ?_
   intro h j _ H _
   have H:Hp w S O (_::_) [_,⟨Sb,5,.slice h ((outs++bytesS (gX f.now i) (cntS (gX f.now i))).length) j,(outs++bytesS (gX f.now i) (cntS (gX f.now i)))⟩] [Rp SB [.slice t ((((secL (gX f.now i)).take (1+((gX f.now i) 0).toNat)).drop 1).length) (m-1)] (((secL (gX f.now i)).take (1+((gX f.now i) 0).toNat)).drop 1),Fc B q [.int .u8 ((((gX f.now i) 0).toNat:Nat):Int)],_] _:=H
   refine uF 1 ?_
   refine uR 2 [.c [4,0,1,0,0,2,0,0,7],.b 1,.c [4,0,1,0,0,3],.l [4,0,1,0,0],.b 0,.c [5]] ?_
   refine qD ((((((gX f.now i) 0).toNat:Nat):Int):Int)<63) (fun u=>?_) (fun u=>?_)
   ·
    refine qR 3 [.c [6]] [(4,.slice h ((outs++bytesS (gX f.now i) (cntS (gX f.now i))).length) j),(5,.nilIface)] ?_
    refine qT (.tuple #[.slice h ((outs++bytesS (gX f.now i) (cntS (gX f.now i))).length) j,.nilIface]) Tryz.func107 ?_
    have H:=H.frontW 1 rfl
    have H:=H.pick [] rfl
    have hfin:(outs++bytesS (gX f.now i) (cntS (gX f.now i)))=readG (gX f.now) sz 0:=by
     rw[←hrd,rd_last (by omega) (by omega) (by omega)]
    rw[hfin]at H
    exact⟨_,rfl,_,_,by rw[hfin],H⟩
   ·
    refine uR 2 [.c [4,0,1,0,0,3],.l [4,0,1,0,0],.b 0,.c [5]] ?_
    refine qG (sq 0 2) ?_
    refine uI ((i:Int)+1) ?_
    refine uF 1 ?_
    obtain⟨_,y⟩:=rd_more hrd (by omega) (by omega)
    have H:=H.pick [] rfl
    have H:=H.frontW 1 rfl
    exact uB (k (i+1,(outs++bytesS (gX f.now i) (cntS (gX f.now i))),h,j) _ ⟨H,by omega,by rw[List.length_append];omega,y⟩ (by first|omega|(simp only[];omega)))
 ·
  refine uR 3 [.c [6]] ?_
  refine qT (.tuple #[.slice aO outs.length cO,.nilIface]) Tryz.func107 ?_
  have hfin:outs=readG (gX f.now) sz 0:=by
   rw[←hrd,show sz-i=0 by omega];exact(List.append_nil _).symm
  rw[hfin]at H
  exact⟨_,rfl,_,_,by rw[hfin],H⟩
end Go.Proofs.YtdnibpclkhenmaaGreatDoor
