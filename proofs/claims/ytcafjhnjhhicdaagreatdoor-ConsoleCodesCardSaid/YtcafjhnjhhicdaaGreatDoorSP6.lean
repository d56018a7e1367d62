import Derived.Test.YtcafjhnjhhicdaaGreatDoorSP5
namespace Go.Proofs.YtcafjhnjhhicdaaGreatDoor
open Go.BX
def objL(ys:List Pc)(k n size:Nat):List (BitVec 8):=(datL ys k n (lenOf size k)).flatten.take size
theorem flat_len{m:List (List (BitVec 8))}{l:Nat}(h:∀x∈m,x.length=l):m.flatten.length=m.length*l:=by
 rw[←catTo_all]
 exact catTo_len h (Nat.le_refl _)
theorem decode_ok{S:Nat→Prop}{w:World}{ps:List Pc}{a:Option Addr}{c:Nat}(h:(Shape.slice pcS).rep S w [.slice a ps.length c] ps){size k n:Nat}(hs:size≤65536)(hk:1≤k)(hkn:k≤n)(hn:n≤255)(hok:PsOk ps n (lenOf size k))(hlen:k≤ps.length)(hreg:∀ys:List Pc,ys.Perm ps→ys.Pairwise (fun x y=>x.index≤y.index)→(redTo (subM ys k n) (ident k) k).1=k):
 Calls Tryz.prog 44 #[.slice a ps.length c,.I size,.I k,.I n] w (Ret fun v w'=>Ext w w'∧∃(a:Option Addr)(c:Nat)(ys:List Pc),v=.tuple #[.slice a (objL ys k n size).length c,.I 0]∧ys.Perm ps∧ys.Pairwise (fun x y=>x.index≤y.index)∧SB.rep (Nw S w) w' [.slice a (objL ys k n size).length c] (objL ys k n size)):=by
 refine qS (fn:=Tryz.f44) (n:=29) (σ:=[(0,.slice a ps.length c),(1,.I size),(2,.I k),(3,.I n)]) Tryz.func44 ?_
 have H:=Hp.startF (w:=w) (S:=S) (G:=[Rp (Shape.slice pcS) [.slice a ps.length c] ps]) (.rp h .nil)
 refine qR 3 [.c [1,0],.c [2]] [(0,.slice a ps.length c),(1,.I size),(2,.I k),(3,.I n)] ?_
 refine qG (sq 0 12) ?_
 refine qP 4 (sq 4 12) [(1,.I size),(14,.slice a ps.length c),(15,.I size),(16,.I k),(17,.I n)] ?_
 refine qK .seq (some 18) (sq 5 12) 75 #[.slice a ps.length c,.I size,.I k,.I n] (data_ok (S:=Av S w [] (idsOf [] [])) (ps:=ps) (H.rp 0 rfl) (size:=size) (k:=k) (n:=n) hs hk hkn hn hok hlen hreg) ?_
 rintro _ w1 hE4⟨a2,c3,ys,rfl,hys,hord,hr5⟩
 have H:=H.addN hE4 (F:=Rp (Shape.slice SB) [.slice a2 ((datL ys k n (lenOf size k)).length) c3] (datL ys k n (lenOf size k))) hr5
 have hyl:=hys.length_eq
 have hyd:∀p∈ys,p.data.length=lenOf size k:=fun p hp=>hok.len p (hys.mem_iff.1 hp)
 have hdl:=datL_len (n:=n) (l:=lenOf size k) (show k≤ys.length by omega)
 have hda:=datL_all (k:=k) (n:=n) hyd
 have hLs:=lenOf_le (size:=size) (k:=k) (by omega)
 have hfl:=flat_len hda
 have hmu:=lenOf_mul (size:=size) (k:=k) (by omega)
 rw[hdl]at hfl
 refine qF 7 [(1,.I size),(10,.slice a2 ((datL ys k n (lenOf size k)).length) c3),(12,.I 0)] ?_
 refine qR 6 [.c [3,0],.c [4]] [(1,.I size),(10,.slice a2 ((datL ys k n (lenOf size k)).length) c3)] ?_
 refine qG (sq 0 6) ?_
 refine qP 1 (sq 1 6) [(1,.I size),(25,.slice a2 ((datL ys k n (lenOf size k)).length) c3)] ?_
 refine qK .seq (some 26) (sq 2 6) 76 #[.slice a2 ((datL ys k n (lenOf size k)).length) c3] (concat_spec (m:=(datL ys k n (lenOf size k))) (H.rp 0 rfl) (by omega) (l:=lenOf size k) (hda) (by omega)) ?_
 rintro v7 w6-H'
 have H:=H.back (M1:=[]) (W1:=[]) H'
 obtain⟨a8,c9,rfl,hc10,hm11⟩:=H.ownForm 0 rfl
 have H:Hp w S [] [] [⟨Sb,5,.slice a8 (((datL ys k n (lenOf size k)).flatten).length) c9,(datL ys k n (lenOf size k)).flatten⟩] [Rp (Shape.slice SB) [.slice a2 ((datL ys k n (lenOf size k)).length) c3] (datL ys k n (lenOf size k)),Rp (Shape.slice pcS) [.slice a ps.length c] ps] _:=H
 refine qP 1 (sq 3 6) [(26,.slice a8 (((datL ys k n (lenOf size k)).flatten).length) c9),(27,.I size)] ?_
 have H:Hp w S [] [] [] [Rp SB [.slice a8 (((datL ys k n (lenOf size k)).flatten).length) c9] ((datL ys k n (lenOf size k)).flatten),Rp (Shape.slice SB) [.slice a2 ((datL ys k n (lenOf size k)).length) c3] (datL ys k n (lenOf size k)),Rp (Shape.slice pcS) [.slice a ps.length c] ps] _:=H.freezeW 0 rfl
 refine RW.slice (κ:=.seq) (d:=some 28) (r:=(sq 4 6)) (T:=28) (e:=5) (sh:=Sb) (a:=a8) (len:=(((datL ys k n (lenOf size k)).flatten).length)) (cap:=c9) (zs:=(objL ys k n size)) (lv:=none) (hv:=(some (.I size))) (by as_aux_lemma=>kernel_rfl) (by as_aux_lemma=>kernel_rfl) H 0 rfl 0 size .nil (.mk (by omega)) (by omega) (by omega) (by rw[List.drop_zero];rfl) ?_
 intro a12 H
 refine qF 2 [(8,.slice a12 (objL ys k n size).length c9),(9,.I 0)] ?_
 refine qT (.tuple #[.slice a12 (objL ys k n size).length c9,.I 0]) Tryz.func44 ?_
 exact⟨_,rfl,H.done,_,_,ys,rfl,hys,hord,H.out (H.rp 0 rfl)⟩
end Go.Proofs.YtcafjhnjhhicdaaGreatDoor
