import Derived.Test.YtdnibpclkhenmaaGreatDoorSBxA
import Derived.Test.YtdnibpclkhenmaaGreatDoorSJ9
namespace Go.Proofs.YtdnibpclkhenmaaGreatDoor
open Go.BX
theorem junk_yes{nm x:ByteArray}{l:Nat}(h:(0<numB nm kS x∧numB nm kS x<l)∨(0<numB nm kC x∧numB nm kC x<l)∨x.toList=(nm++(⟨#[46,116]⟩:ByteArray)).toList):Junk nm l x:=by
 rcases h with⟨a,b⟩|⟨a,b⟩|h
 ·exact .inr (.inl ⟨_,numB_of rfl a,b⟩)
 ·exact .inl ⟨_,numB_of rfl a,b⟩
 ·exact .inr (.inr (toList_inj h))
theorem junk_no{nm x:ByteArray}{l:Nat}(hp:PlainB nm)(hx:FForm x)(h:¬((0<numB nm kS x∧numB nm kS x<l)∨(0<numB nm kC x∧numB nm kC x<l)∨x.toList=(nm++(⟨#[46,116]⟩:ByteArray)).toList)):¬Junk nm l x:=by
 rintro(⟨n,rfl,hn⟩|⟨n,rfl,hn⟩| rfl)
 · have a :=(FForm.pos hp (.inr rfl) hx).1
   exact h (.inr (.inl ⟨by rw[numB_yes hp (.inr rfl) a];exact a,by rw[numB_yes hp (.inr rfl) a];exact hn⟩))
 · have a := (FForm.pos hp (.inl rfl) hx).1
   exact h (.inl ⟨by rw[numB_yes hp (.inl rfl) a];exact a,by rw[numB_yes hp (.inl rfl) a];exact hn⟩)
 ·exact h (.inr (.inr rfl))
theorem DrS.ff{D0 D:DiskD}{nm:ByteArray}{V:VV}{g n:Nat}{x:ByteArray}{rest:List ByteArray}(h:DrS D0 nm V g n (x::rest) D):FForm x:=by
 obtain⟨o,ho⟩:=Option.ne_none_iff_exists'.1 (h.mem x (List.mem_cons_self ..))
 exact h.di.form _ _ _ ho
theorem DrS.sz{D0 D:DiskD}{nm:ByteArray}{V:VV}{g n:Nat}{x:ByteArray}{rest:List ByteArray}(h:DrS D0 nm V g n (x::rest) D):x.size≤maxLen:=by
 have:=h.ff.size.1
 unfold maxLen;omega
set_option maxHeartbeats 1000000 in
theorem jdrop_spec{S:Nat→Prop}{w:World}{O:List Nat}{jb db:Nat}{nm:ByteArray}{x2 x3 x4 x5 x6 x7:Value}{D0:DiskD}{sa0:Option Addr}{sk0:Nat}{Dz:DiskD}{V:VV}{g n:Nat}(hp:PlainB nm)(hr0:Rdy D0)(hnl:D0.now.length≤256)(hS:∀ns:List ByteArray,ns.Perm (D0.now.map (·.1))→DrS Dz nm V g n ns D0)(H0:Hp w S O ((jb,.cells #[.P db 0,.string nm,x2,x3,x4,x5,x6,x7] 41 (0,0))::diskM db D0 sa0 sk0) [⟨stepS,143,.slice sa0 D0.steps.length sk0,D0.steps⟩] [] w):
 Calls Tryz.prog 56 #[.P jb 0,.I (V.last:Int)] w (Ret fun v w'=>(v=.nilIface∧∃(D':DiskD)(sa':Option Addr)(sk':Nat),DrS Dz nm V g n [] D'∧Hp w S O ((jb,.cells #[.P db 0,.string nm,x2,x3,x4,x5,x6,x7] 41 (0,0))::diskM db D' sa' sk') [diskW D' sa' sk'] [] w')∨(∃eb:Nat,v=.iface 200 (.P eb 0)∧∃(D':DiskD)(sa':Option Addr)(sk':Nat),Dd Dz D' nm g (fun B lo hi=>B=V.B∧V.hi<+:lo∧hi<+:V.hi)∧Hp w S O ((eb,.cells #[.I 70] 204 (0,0))::(jb,.cells #[.P db 0,.string nm,x2,x3,x4,x5,x6,x7] 41 (0,0))::diskM db D' sa' sk') [diskW D' sa' sk'] [] w')):=by
 have a0:nm.size≤16:=hp.1
 have b0:({data:=#[46,116]}:ByteArray).size=2:=rfl
 refine uS1 Tryz.func56 ?_
 have H:=H0
 refine uR 4 [.c [1,0,0],.c [1,0,1],.c [2]] ?_
 refine qG (sq 0 7) ?_
 refine uP 3 ?_
 refine uV 24 0 (H.cells 0 rfl) ?_
 have H:=H.gat 0 1
 refine uKS (dNames hr0.di hr0.dead (hnl) ((H.lend (M1:=(diskM _ _ _ _)) (W1:=[_])).pick [] rfl)) ?_
 rintro _ _⟨t,u,a,A,rfl,H'⟩
 have H:=H.back (M1:=(diskM _ _ _ _)) (W1:=[_]) H'
 have H:=H.ung 0
 have H:Hp w S O (_::(diskM db D0 sa0 sk0)) [⟨Shape.str,9,.slice t a.length u,a⟩,_] [] _:=H
 have H:Hp w S O (_::_) [_] [Rp (Shape.slice Shape.str) [.slice t a.length u] a] _:=H.freezeW 0 rfl
 have hnP:=hS a A
 have hnL:a.length≤256:=by rw[A.length_eq,List.length_map];exact hnl
 refine uF 2 ?_
 refine uR 1 [.c [1,0,1,0],.b 0,.c [2]] ?_
 refine uL (α:=Nat×DiskD×Option Addr×Nat) (g:=56) (p:=[1,0,1,0,0]) (fun(i,D,sa,sk)=>[(0,.P jb 0),(1,.I (V.last:Int)),(16,.slice t a.length u),(17,.I ((a.length:Nat):Int)),(18,.I i)]) (fun(i,D,sa,sk)w'=>Hp w S O ((jb,.cells #[.P db 0,.string nm,x2,x3,x4,x5,x6,x7] 41 (0,0))::(diskM db D sa sk)) [⟨stepS,143,.slice sa D.steps.length sk,D.steps⟩] [Rp (Shape.slice Shape.str) [.slice t a.length u] a] w'∧i≤a.length∧DrS Dz nm V g n (a.drop i) D) (fun(i,D,sa,sk)=>a.length-i) (0,D0,sa0,sk0) ⟨H,Nat.zero_le _,hnP⟩ ?_
 rintro⟨i,D,sa,sk⟩_⟨H,⟨hi,C⟩⟩q
 have hP:∀h:i<a.length,DrS Dz nm V g n (a[i]::a.drop (i+1)) D:=fun h=>by rwa[List.drop_eq_getElem_cons h]at C
 refine uR 3 [.c [1,0,1,0,0,1,0],.c [1,0,1,0,0,2],.l [1,0,1,0,0],.b 0,.c [2]] ?_
 refine qD (((i:Int):Int)<((a.length:Nat):Int)) (fun h8=>?_) (fun h8=>?_)
 ·
  have hP:=hP (by omega)
  refine uR 4 [.c [1,0,1,0,0,2,0,0,0],.c [1,0,1,0,0,2,0,0,1],.b 1,.c [1,0,1,0,0,3],.l [1,0,1,0,0],.b 0,.c [2]] ?_
  refine qG (sq 0 3) ?_
  have M:i<a.length:=by omega
  refine uX 189 (i:Int) H 0 rfl i (by omega) (List.getElem?_eq_getElem M) ?_
  intro N Q _ E H
  obtain⟨rfl,_⟩:=E
  refine uV 9 0 (H.fc 0 rfl) ?_
  refine uF 1 ?_
  refine uR 1 [.c [1,0,1,0,0,2,0,0,1,0],.c [1,0,1,0,0,2,0,0,2],.b 1,.c [1,0,1,0,0,3],.l [1,0,1,0,0],.b 0,.c [2]] ?_
  refine qG (sq 0 8) ?_
  refine uP 2 ?_
  refine uK (numbered_spec (S:=fun _=>True) (kd:=kS) (H.viewM 0 rfl (by simp)) hP.ff hp (.inl rfl)) ?_
  rintro _ _ F rfl
  have H:=H.ext F
  refine uF 5 ?_
  refine uR 1 [.c [1,0,1,0,0,2,0,0,2,0],.c [1,0,1,0,0,2,0,0,3],.b 1,.c [1,0,1,0,0,3],.l [1,0,1,0,0],.b 0,.c [2]] ?_
  refine qG (sq 0 8) ?_
  refine uP 2 ?_
  refine uK (numbered_spec (S:=fun _=>True) (kd:=kC) (H.viewM 0 rfl (by simp)) hP.ff hp (.inr rfl)) ?_
  rintro _ _ G rfl
  have H:=H.ext G
  refine uF 5 ?_
  refine uR 1 [.c [1,0,1,0,0,2,0,0,3,0],.c [1,0,1,0,0,2,0,0,4],.b 1,.c [1,0,1,0,0,3],.l [1,0,1,0,0],.b 0,.c [2]] ?_
  refine WK.join (fun b_:Bool=>b_=decide ((0<numB nm kS a[i]∧numB nm kS a[i]<V.last)∨(0<numB nm kC a[i]∧numB nm kC a[i]<V.last)∨a[i].toList=(nm++(⟨#[46,116]⟩:ByteArray)).toList)) (fun b_=>[(0,.P jb 0),(1,.I (V.last:Int)),(6,.string (a[i])),(16,.slice t a.length u),(17,.I ((a.length:Nat):Int)),(18,.I i),(56,.bool b_)]) [Cq Tryz.prog 56 [1,0,1,0,0,2,0,0,4],.inBlock 1,Cq Tryz.prog 56 [1,0,1,0,0,3],Lq Tryz.prog 56 [1,0,1,0,0],.inBlock 0,Cq Tryz.prog 56 [2]] (fun f=>?_) (fun J z=>?_)
  ·
   refine qG (sq 0 23) ?_
   refine qP 2 (sq 2 23) [(0,.P jb 0),(1,.I (V.last:Int)),(6,.string (a[i])),(7,.I ((numB nm kS (a[i]):Nat):Int)),(9,.I ((numB nm kC (a[i]):Nat):Int)),(10,.bool (decide (0<numB nm kC (a[i])))),(16,.slice t a.length u),(17,.I ((a.length:Nat):Int)),(18,.I i),(35,.bool (decide (0<numB nm kS (a[i]))))] ?_
   refine uD 35 (0<numB nm kS (a[i])) (fun R=>?_) (fun R=>?_)
   ·
    refine uP 5 ?_
    refine uD 40 ((((numB nm kS (a[i]):Nat):Int):Int)<(V.last:Int)) (fun T=>?_) (fun T=>?_)
    ·
     refine uF 16 ?_
     exact uB (f true ((decide_eq_true (by first|exact .inl ⟨by omega,by omega⟩|exact .inr (.inl ⟨by omega,by omega⟩))).symm))
    ·
     refine uP 2 ?_
     refine uD 42 (0<numB nm kC (a[i])) (fun U=>?_) (fun U=>?_)
     ·
      refine uP 6 ?_
      refine uD 48 ((((numB nm kC (a[i]):Nat):Int):Int)<(V.last:Int)) (fun W=>?_) (fun W=>?_)
      ·
       refine uF 8 ?_
       exact uB (f true ((decide_eq_true (by first|exact .inl ⟨by omega,by omega⟩|exact .inr (.inl ⟨by omega,by omega⟩))).symm))
      ·
       refine uP 4 ?_
       refine uV 9 1 (H.cells 0 rfl) ?_
       refine RW.readS (κ:=.seq) (d:=some 54) (r:=(sq 21 23)) (s:=semV (Op.stringOp .add nm (⟨#[46,116]⟩:ByteArray))) (v:=.string (nm++(⟨#[46,116]⟩:ByteArray))) (by as_aux_lemma=>kernel_rfl) (fun w' _=>semV_run (run_string_add_sum w' _ _ (by omega))) ?_
       refine uF 2 ?_
       exact uB (f ((a[i]).toList==(nm++(⟨#[46,116]⟩:ByteArray)).toList) (by rw[Bool.eq_iff_iff,beq_iff_eq,decide_eq_true_iff];exact⟨fun e=>.inr (.inr e),fun e=>by rcases e with e|e|e<;>first|exact e|exact absurd e (by omega)⟩))
     ·
      refine uP 10 ?_
      refine uV 9 1 (H.cells 0 rfl) ?_
      refine RW.readS (κ:=.seq) (d:=some 54) (r:=(sq 21 23)) (s:=semV (Op.stringOp .add nm (⟨#[46,116]⟩:ByteArray))) (v:=.string (nm++(⟨#[46,116]⟩:ByteArray))) (by as_aux_lemma=>kernel_rfl) (fun w' _=>semV_run (run_string_add_sum w' _ _ (by omega))) ?_
      refine uF 2 ?_
      exact uB (f ((a[i]).toList==(nm++(⟨#[46,116]⟩:ByteArray)).toList) (by rw[Bool.eq_iff_iff,beq_iff_eq,decide_eq_true_iff];exact⟨fun e=>.inr (.inr e),fun e=>by rcases e with e|e|e<;>first|exact e|exact absurd e (by omega)⟩))
   ·
    refine uP 7 ?_
    refine uD 42 (0<numB nm kC (a[i])) (fun X=>?_) (fun X=>?_)
    ·
     refine uP 6 ?_
     refine uD 48 ((((numB nm kC (a[i]):Nat):Int):Int)<(V.last:Int)) (fun Y=>?_) (fun Y=>?_)
     ·
      refine uF 8 ?_
      exact uB (f true ((decide_eq_true (by first|exact .inl ⟨by omega,by omega⟩|exact .inr (.inl ⟨by omega,by omega⟩))).symm))
     ·
      refine uP 4 ?_
      refine uV 9 1 (H.cells 0 rfl) ?_
      refine RW.readS (κ:=.seq) (d:=some 54) (r:=(sq 21 23)) (s:=semV (Op.stringOp .add nm (⟨#[46,116]⟩:ByteArray))) (v:=.string (nm++(⟨#[46,116]⟩:ByteArray))) (by as_aux_lemma=>kernel_rfl) (fun w' _=>semV_run (run_string_add_sum w' _ _ (by omega))) ?_
      refine uF 2 ?_
      exact uB (f ((a[i]).toList==(nm++(⟨#[46,116]⟩:ByteArray)).toList) (by rw[Bool.eq_iff_iff,beq_iff_eq,decide_eq_true_iff];exact⟨fun e=>.inr (.inr e),fun e=>by rcases e with e|e|e<;>first|exact e|exact absurd e (by omega)⟩))
    ·
     refine uP 10 ?_
     refine uV 9 1 (H.cells 0 rfl) ?_
     refine RW.readS (κ:=.seq) (d:=some 54) (r:=(sq 21 23)) (s:=semV (Op.stringOp .add nm (⟨#[46,116]⟩:ByteArray))) (v:=.string (nm++(⟨#[46,116]⟩:ByteArray))) (by as_aux_lemma=>kernel_rfl) (fun w' _=>semV_run (run_string_add_sum w' _ _ (by omega))) ?_
     refine uF 2 ?_
     exact uB (f ((a[i]).toList==(nm++(⟨#[46,116]⟩:ByteArray)).toList) (by rw[Bool.eq_iff_iff,beq_iff_eq,decide_eq_true_iff];exact⟨fun e=>.inr (.inr e),fun e=>by rcases e with e|e|e<;>first|exact e|exact absurd e (by omega)⟩))
  ·
   refine qC J (fun j=>?_) (fun j=>?_)
   ·
    rw[z]at j
    replace j:=of_decide_eq_true j
    have hjk:=junk_yes j
    refine uR 1 [.c [1,0,1,0,0,2,0,0,4,0,0],.c [1,0,1,0,0,2,0,0,4,0,1],.b 1,.c [1,0,1,0,0,3],.l [1,0,1,0,0],.b 0,.c [2]] ?_
    refine qG (sq 0 7) ?_
    refine uP 3 ?_
    refine uV 24 0 (H.cells 0 rfl) ?_
    refine uP 1 ?_
    have H:=H.gat 0 1
    refine uKS (dRemove (hP.al.rdy hP.di).di.ok (hP.al.rdy hP.di).st (hP.al.rdy hP.di).dead (by exact hP.sz) (hP.al.rdy hP.di).hl ((H.lend (M1:=(diskM _ _ _ _)) (W1:=[_])).pick [] rfl)) ?_
    rintro _ _⟨k,m,o,⟨Z,rfl,x⟩,H'⟩
    have H:=H.back (M1:=(diskM _ _ _ _)) (W1:=[_]) H'
    have H:=H.ung 0
    have H:Hp w S O (_::(diskM db k m o)) [⟨stepS,143,.slice m k.steps.length o,k.steps⟩] [Fc N Q [.string (a[i])],_] _:=H
    have x:RemoveR D (a[i]) Z k:=x
    rcases hP.rm hp hjk x with⟨rfl,K⟩|⟨rfl,L⟩
    ·
     refine uF 1 ?_
     refine uR 4 [.c [1,0,1,0,0,2,0,0,4,0,2,0,0],.c [1,0,1,0,0,2,0,0,4,0,2,0,1],.b 1,.c [1,0,1,0,0,3],.l [1,0,1,0,0],.b 0,.c [2]] ?_
     refine qG (sq 0 3) ?_
     refine uP 1 ?_
     refine uK (told_spec (S:=Av S w O (idsOf ((jb,.cells #[.P db 0,.string nm,x2,x3,x4,x5,x6,x7] 41 (0,0))::(diskM db k m o)) [⟨stepS,143,.slice m k.steps.length o,k.steps⟩]))) ?_
     rintro _ _-⟨y,rfl,H'⟩
     have H:=H.back (M1:=[]) (W1:=[]) H'
     have H:Hp w S O ((y,.cells #[.I 70] 204 (0,0))::_::_) [_] [_,_] _:=H
     refine uF 1 ?_
     refine qT (.iface 200 (.P y 0)) Tryz.func56 ?_
     have H:=H.pick [] rfl
     exact⟨_,rfl,.inr ⟨y,rfl,k,m,o,K,H⟩⟩
    ·
     refine uF 1 ?_
     refine qR 5 [.c [1,0,1,0,0,3],.l [1,0,1,0,0],.b 0,.c [2]] [(0,.P jb 0),(1,.I (V.last:Int)),(16,.slice t a.length u),(17,.I ((a.length:Nat):Int)),(18,.I i)] ?_
     refine qG (sq 0 2) ?_
     refine uI ((i:Int)+1) ?_
     refine uF 1 ?_
     have H:=H.pick [1] rfl
     exact uB (q (i+1,k,m,o) _ ⟨H,by omega,L⟩ (by first|omega|(simp only[];omega)))
   ·
    rw[z]at j
    replace j:=of_decide_eq_false j
    have hjk:=junk_no hp hP.ff j
    refine uR 2 [.c [1,0,1,0,0,3],.l [1,0,1,0,0],.b 0,.c [2]] ?_
    refine qG (sq 0 2) ?_
    refine uI ((i:Int)+1) ?_
    refine uF 1 ?_
    have H:=H.pick [1] rfl
    exact uB (q (i+1,D,sa,sk) _ ⟨H,by omega,hP.skip hjk⟩ (by first|omega|(simp only[];omega)))
 ·
  refine qR 3 [.c [3]] [(4,.nilIface)] ?_
  refine qT .nilIface Tryz.func56 ?_
  have H:=H.pick [] rfl
  exact⟨_,rfl,.inl ⟨rfl,D,sa,sk,by rwa[List.drop_eq_nil_of_le (by omega)]at C,H⟩⟩
end Go.Proofs.YtdnibpclkhenmaaGreatDoor
