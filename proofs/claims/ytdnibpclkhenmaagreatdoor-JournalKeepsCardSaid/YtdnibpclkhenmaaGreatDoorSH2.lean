import Derived.Test.YtdnibpclkhenmaaGreatDoorSBxA
import Derived.Test.YtdnibpclkhenmaaGreatDoorSH1
namespace Go.Proofs.YtdnibpclkhenmaaGreatDoor
open Go.BX
def sameB(xs ys:List (BitVec 8)):Bool:=(strOf xs).toList==(strOf ys).toList
theorem sameB_eq{xs ys:List (BitVec 8)}(h:xs=ys):sameB xs ys=true:=by subst h;simp[sameB]
theorem same01_spec{S:Nat→Prop}{w:World}{xs ys:List (BitVec 8)}{a b:Option Addr}{c d:Nat}(h1:SB.rep S w [.slice a xs.length c] xs)(h2:SB.rep S w [.slice b ys.length d] ys):
 Calls Tryz.prog 17 #[.slice a xs.length c,.slice b ys.length d] w (Ret fun v w'=>Ext w w'∧v=.bool (sameB xs ys)):=by
 refine uS1 Tryz.func17 ?_
 have H:=Hp.startF (.rp h1 (.rp h2 .nil))
 refine uR 3 [.c [1,0],.c [2]] ?_
 refine qG (sq 0 6) ?_
 refine uP 1 ?_
 refine RW.toStr (κ:=.seq) (d:=some 6) (r:=(sq 2 6)) (Ts:=23) (Td:=9) 5 (a:=a) (len:=xs.length) (cap:=c) (xs:=xs) (by as_aux_lemma=>kernel_rfl) (by as_aux_lemma=>kernel_rfl) (H.rp 0 rfl) ?_
 refine uP 1 ?_
 refine RW.toStr (κ:=.seq) (d:=some 8) (r:=(sq 4 6)) (Ts:=23) (Td:=9) 5 (a:=b) (len:=ys.length) (cap:=d) (xs:=ys) (by as_aux_lemma=>kernel_rfl) (by as_aux_lemma=>kernel_rfl) (H.rp 1 rfl) ?_
 refine uF 2 ?_
 refine qT (.bool ((strOf xs).toList==(strOf ys).toList)) Tryz.func17 ?_
 exact⟨_,rfl,H.done,rfl⟩
theorem same01N{S:Nat→Prop}{w:World}{xs ys:List (BitVec 8)}{a b:Option Addr}{c d n m:Nat}(h1:SB.rep S w [.slice a n c] xs)(h2:SB.rep S w [.slice b m d] ys):
 Calls Tryz.prog 17 #[.slice a n c,.slice b m d] w (Ret fun v w'=>Ext w w'∧v=.bool (sameB xs ys)):=by
 obtain⟨e,-⟩:=Shape.elems_of h1
 obtain⟨f,-⟩:=Shape.elems_of h2
 subst e
 subst f
 exact same01_spec h1 h2
end Go.Proofs.YtdnibpclkhenmaaGreatDoor
