import Derived.Test.YtcafjhnjhhicdaaGreatDoorSK5
import Derived.Test.YtcafjhnjhhicdaaGreatDoorSK1
namespace Go.Proofs.YtcafjhnjhhicdaaGreatDoor
open Go.BX
theorem as_nil{S:Nat→Prop}{w:World}{b:Nat}:
 Calls Tryz.prog 13 #[.nilIface,.iface 52 (.P b 0)] w (Ret fun v w'=>Ext w w'∧v=.bool false):=by
 refine qS (fn:=Tryz.f13) (n:=42) (σ:=[(0,.nilIface),(1,.iface 52 (.P b 0))]) Tryz.func13 ?_
 have H:=Hp.startF (w:=w) (S:=S) (G:=[]) .nil
 refine qR 8 [.c [1,0,1,0,1],.c [2]] [(4,.bool false)] ?_
 refine qT (.bool false) Tryz.func13 ?_
 exact⟨_,rfl,H.done,rfl⟩
def cmdL1:List (ByteArray×Value×Nat):=[((⟨#[99,111,100,101]⟩:ByteArray),(.func (.func 15) #[] #[]:Value),0)]
def cmdL2:List (ByteArray×Value×Nat):=[((⟨#[99,111,100,101]⟩:ByteArray),(.func (.func 15) #[] #[]:Value),0),((⟨#[100,101,99,111,100,101]⟩:ByteArray),(.func (.func 16) #[] #[]:Value),1)]
def cmdL3:List (ByteArray×Value×Nat):=[((⟨#[99,111,100,101]⟩:ByteArray),(.func (.func 15) #[] #[]:Value),0),((⟨#[100,101,99,111,100,101]⟩:ByteArray),(.func (.func 16) #[] #[]:Value),1),((⟨#[109,101,109,98,101,114]⟩:ByteArray),(.func (.func 17) #[] #[]:Value),2)]
def cmdL4:List (ByteArray×Value×Nat):=[((⟨#[99,111,100,101]⟩:ByteArray),(.func (.func 15) #[] #[]:Value),0),((⟨#[100,101,99,111,100,101]⟩:ByteArray),(.func (.func 16) #[] #[]:Value),1),((⟨#[109,101,109,98,101,114]⟩:ByteArray),(.func (.func 17) #[] #[]:Value),2),((⟨#[109,97,112]⟩:ByteArray),(.func (.func 18) #[] #[]:Value),3)]
def cmdL5:List (ByteArray×Value×Nat):=[((⟨#[99,111,100,101]⟩:ByteArray),(.func (.func 15) #[] #[]:Value),0),((⟨#[100,101,99,111,100,101]⟩:ByteArray),(.func (.func 16) #[] #[]:Value),1),((⟨#[109,101,109,98,101,114]⟩:ByteArray),(.func (.func 17) #[] #[]:Value),2),((⟨#[109,97,112]⟩:ByteArray),(.func (.func 18) #[] #[]:Value),3),((⟨#[112,108,97,99,101]⟩:ByteArray),(.func (.func 19) #[] #[]:Value),4)]
def cmdL6:List (ByteArray×Value×Nat):=[((⟨#[99,111,100,101]⟩:ByteArray),(.func (.func 15) #[] #[]:Value),0),((⟨#[100,101,99,111,100,101]⟩:ByteArray),(.func (.func 16) #[] #[]:Value),1),((⟨#[109,101,109,98,101,114]⟩:ByteArray),(.func (.func 17) #[] #[]:Value),2),((⟨#[109,97,112]⟩:ByteArray),(.func (.func 18) #[] #[]:Value),3),((⟨#[112,108,97,99,101]⟩:ByteArray),(.func (.func 19) #[] #[]:Value),4),((⟨#[109,101,116,97]⟩:ByteArray),(.func (.func 20) #[] #[]:Value),5)]
def cmdL7:List (ByteArray×Value×Nat):=[((⟨#[99,111,100,101]⟩:ByteArray),(.func (.func 15) #[] #[]:Value),0),((⟨#[100,101,99,111,100,101]⟩:ByteArray),(.func (.func 16) #[] #[]:Value),1),((⟨#[109,101,109,98,101,114]⟩:ByteArray),(.func (.func 17) #[] #[]:Value),2),((⟨#[109,97,112]⟩:ByteArray),(.func (.func 18) #[] #[]:Value),3),((⟨#[112,108,97,99,101]⟩:ByteArray),(.func (.func 19) #[] #[]:Value),4),((⟨#[109,101,116,97]⟩:ByteArray),(.func (.func 20) #[] #[]:Value),5),((⟨#[98,101,103,105,110]⟩:ByteArray),(.func (.func 21) #[] #[]:Value),6)]
def cmdL8:List (ByteArray×Value×Nat):=[((⟨#[99,111,100,101]⟩:ByteArray),(.func (.func 15) #[] #[]:Value),0),((⟨#[100,101,99,111,100,101]⟩:ByteArray),(.func (.func 16) #[] #[]:Value),1),((⟨#[109,101,109,98,101,114]⟩:ByteArray),(.func (.func 17) #[] #[]:Value),2),((⟨#[109,97,112]⟩:ByteArray),(.func (.func 18) #[] #[]:Value),3),((⟨#[112,108,97,99,101]⟩:ByteArray),(.func (.func 19) #[] #[]:Value),4),((⟨#[109,101,116,97]⟩:ByteArray),(.func (.func 20) #[] #[]:Value),5),((⟨#[98,101,103,105,110]⟩:ByteArray),(.func (.func 21) #[] #[]:Value),6),((⟨#[100,101,108,101,116,101]⟩:ByteArray),(.func (.func 22) #[] #[]:Value),7)]
def cmdL9:List (ByteArray×Value×Nat):=[((⟨#[99,111,100,101]⟩:ByteArray),(.func (.func 15) #[] #[]:Value),0),((⟨#[100,101,99,111,100,101]⟩:ByteArray),(.func (.func 16) #[] #[]:Value),1),((⟨#[109,101,109,98,101,114]⟩:ByteArray),(.func (.func 17) #[] #[]:Value),2),((⟨#[109,97,112]⟩:ByteArray),(.func (.func 18) #[] #[]:Value),3),((⟨#[112,108,97,99,101]⟩:ByteArray),(.func (.func 19) #[] #[]:Value),4),((⟨#[109,101,116,97]⟩:ByteArray),(.func (.func 20) #[] #[]:Value),5),((⟨#[98,101,103,105,110]⟩:ByteArray),(.func (.func 21) #[] #[]:Value),6),((⟨#[100,101,108,101,116,101]⟩:ByteArray),(.func (.func 22) #[] #[]:Value),7),((⟨#[99,111,109,109,105,116]⟩:ByteArray),(.func (.func 23) #[] #[]:Value),8)]
def cmdL10:List (ByteArray×Value×Nat):=[((⟨#[99,111,100,101]⟩:ByteArray),(.func (.func 15) #[] #[]:Value),0),((⟨#[100,101,99,111,100,101]⟩:ByteArray),(.func (.func 16) #[] #[]:Value),1),((⟨#[109,101,109,98,101,114]⟩:ByteArray),(.func (.func 17) #[] #[]:Value),2),((⟨#[109,97,112]⟩:ByteArray),(.func (.func 18) #[] #[]:Value),3),((⟨#[112,108,97,99,101]⟩:ByteArray),(.func (.func 19) #[] #[]:Value),4),((⟨#[109,101,116,97]⟩:ByteArray),(.func (.func 20) #[] #[]:Value),5),((⟨#[98,101,103,105,110]⟩:ByteArray),(.func (.func 21) #[] #[]:Value),6),((⟨#[100,101,108,101,116,101]⟩:ByteArray),(.func (.func 22) #[] #[]:Value),7),((⟨#[99,111,109,109,105,116]⟩:ByteArray),(.func (.func 23) #[] #[]:Value),8),((⟨#[97,98,111,114,116]⟩:ByteArray),(.func (.func 24) #[] #[]:Value),9)]
def cmdL11:List (ByteArray×Value×Nat):=[((⟨#[99,111,100,101]⟩:ByteArray),(.func (.func 15) #[] #[]:Value),0),((⟨#[100,101,99,111,100,101]⟩:ByteArray),(.func (.func 16) #[] #[]:Value),1),((⟨#[109,101,109,98,101,114]⟩:ByteArray),(.func (.func 17) #[] #[]:Value),2),((⟨#[109,97,112]⟩:ByteArray),(.func (.func 18) #[] #[]:Value),3),((⟨#[112,108,97,99,101]⟩:ByteArray),(.func (.func 19) #[] #[]:Value),4),((⟨#[109,101,116,97]⟩:ByteArray),(.func (.func 20) #[] #[]:Value),5),((⟨#[98,101,103,105,110]⟩:ByteArray),(.func (.func 21) #[] #[]:Value),6),((⟨#[100,101,108,101,116,101]⟩:ByteArray),(.func (.func 22) #[] #[]:Value),7),((⟨#[99,111,109,109,105,116]⟩:ByteArray),(.func (.func 23) #[] #[]:Value),8),((⟨#[97,98,111,114,116]⟩:ByteArray),(.func (.func 24) #[] #[]:Value),9),((⟨#[99,117,116]⟩:ByteArray),(.func (.func 25) #[] #[]:Value),10)]
def cmdL12:List (ByteArray×Value×Nat):=[((⟨#[99,111,100,101]⟩:ByteArray),(.func (.func 15) #[] #[]:Value),0),((⟨#[100,101,99,111,100,101]⟩:ByteArray),(.func (.func 16) #[] #[]:Value),1),((⟨#[109,101,109,98,101,114]⟩:ByteArray),(.func (.func 17) #[] #[]:Value),2),((⟨#[109,97,112]⟩:ByteArray),(.func (.func 18) #[] #[]:Value),3),((⟨#[112,108,97,99,101]⟩:ByteArray),(.func (.func 19) #[] #[]:Value),4),((⟨#[109,101,116,97]⟩:ByteArray),(.func (.func 20) #[] #[]:Value),5),((⟨#[98,101,103,105,110]⟩:ByteArray),(.func (.func 21) #[] #[]:Value),6),((⟨#[100,101,108,101,116,101]⟩:ByteArray),(.func (.func 22) #[] #[]:Value),7),((⟨#[99,111,109,109,105,116]⟩:ByteArray),(.func (.func 23) #[] #[]:Value),8),((⟨#[97,98,111,114,116]⟩:ByteArray),(.func (.func 24) #[] #[]:Value),9),((⟨#[99,117,116]⟩:ByteArray),(.func (.func 25) #[] #[]:Value),10),((⟨#[109,111,118,101,100]⟩:ByteArray),(.func (.func 26) #[] #[]:Value),11)]
def cmdL13:List (ByteArray×Value×Nat):=[((⟨#[99,111,100,101]⟩:ByteArray),(.func (.func 15) #[] #[]:Value),0),((⟨#[100,101,99,111,100,101]⟩:ByteArray),(.func (.func 16) #[] #[]:Value),1),((⟨#[109,101,109,98,101,114]⟩:ByteArray),(.func (.func 17) #[] #[]:Value),2),((⟨#[109,97,112]⟩:ByteArray),(.func (.func 18) #[] #[]:Value),3),((⟨#[112,108,97,99,101]⟩:ByteArray),(.func (.func 19) #[] #[]:Value),4),((⟨#[109,101,116,97]⟩:ByteArray),(.func (.func 20) #[] #[]:Value),5),((⟨#[98,101,103,105,110]⟩:ByteArray),(.func (.func 21) #[] #[]:Value),6),((⟨#[100,101,108,101,116,101]⟩:ByteArray),(.func (.func 22) #[] #[]:Value),7),((⟨#[99,111,109,109,105,116]⟩:ByteArray),(.func (.func 23) #[] #[]:Value),8),((⟨#[97,98,111,114,116]⟩:ByteArray),(.func (.func 24) #[] #[]:Value),9),((⟨#[99,117,116]⟩:ByteArray),(.func (.func 25) #[] #[]:Value),10),((⟨#[109,111,118,101,100]⟩:ByteArray),(.func (.func 26) #[] #[]:Value),11),((⟨#[110,101,120,116]⟩:ByteArray),(.func (.func 27) #[] #[]:Value),12)]
def cmdL14:List (ByteArray×Value×Nat):=[((⟨#[99,111,100,101]⟩:ByteArray),(.func (.func 15) #[] #[]:Value),0),((⟨#[100,101,99,111,100,101]⟩:ByteArray),(.func (.func 16) #[] #[]:Value),1),((⟨#[109,101,109,98,101,114]⟩:ByteArray),(.func (.func 17) #[] #[]:Value),2),((⟨#[109,97,112]⟩:ByteArray),(.func (.func 18) #[] #[]:Value),3),((⟨#[112,108,97,99,101]⟩:ByteArray),(.func (.func 19) #[] #[]:Value),4),((⟨#[109,101,116,97]⟩:ByteArray),(.func (.func 20) #[] #[]:Value),5),((⟨#[98,101,103,105,110]⟩:ByteArray),(.func (.func 21) #[] #[]:Value),6),((⟨#[100,101,108,101,116,101]⟩:ByteArray),(.func (.func 22) #[] #[]:Value),7),((⟨#[99,111,109,109,105,116]⟩:ByteArray),(.func (.func 23) #[] #[]:Value),8),((⟨#[97,98,111,114,116]⟩:ByteArray),(.func (.func 24) #[] #[]:Value),9),((⟨#[99,117,116]⟩:ByteArray),(.func (.func 25) #[] #[]:Value),10),((⟨#[109,111,118,101,100]⟩:ByteArray),(.func (.func 26) #[] #[]:Value),11),((⟨#[110,101,120,116]⟩:ByteArray),(.func (.func 27) #[] #[]:Value),12),((⟨#[108,105,115,116]⟩:ByteArray),(.func (.func 28) #[] #[]:Value),13)]
def cmdL15:List (ByteArray×Value×Nat):=[((⟨#[99,111,100,101]⟩:ByteArray),(.func (.func 15) #[] #[]:Value),0),((⟨#[100,101,99,111,100,101]⟩:ByteArray),(.func (.func 16) #[] #[]:Value),1),((⟨#[109,101,109,98,101,114]⟩:ByteArray),(.func (.func 17) #[] #[]:Value),2),((⟨#[109,97,112]⟩:ByteArray),(.func (.func 18) #[] #[]:Value),3),((⟨#[112,108,97,99,101]⟩:ByteArray),(.func (.func 19) #[] #[]:Value),4),((⟨#[109,101,116,97]⟩:ByteArray),(.func (.func 20) #[] #[]:Value),5),((⟨#[98,101,103,105,110]⟩:ByteArray),(.func (.func 21) #[] #[]:Value),6),((⟨#[100,101,108,101,116,101]⟩:ByteArray),(.func (.func 22) #[] #[]:Value),7),((⟨#[99,111,109,109,105,116]⟩:ByteArray),(.func (.func 23) #[] #[]:Value),8),((⟨#[97,98,111,114,116]⟩:ByteArray),(.func (.func 24) #[] #[]:Value),9),((⟨#[99,117,116]⟩:ByteArray),(.func (.func 25) #[] #[]:Value),10),((⟨#[109,111,118,101,100]⟩:ByteArray),(.func (.func 26) #[] #[]:Value),11),((⟨#[110,101,120,116]⟩:ByteArray),(.func (.func 27) #[] #[]:Value),12),((⟨#[108,105,115,116]⟩:ByteArray),(.func (.func 28) #[] #[]:Value),13),((⟨#[102,105,110,100]⟩:ByteArray),(.func (.func 29) #[] #[]:Value),14)]
def cmdL16:List (ByteArray×Value×Nat):=[((⟨#[99,111,100,101]⟩:ByteArray),(.func (.func 15) #[] #[]:Value),0),((⟨#[100,101,99,111,100,101]⟩:ByteArray),(.func (.func 16) #[] #[]:Value),1),((⟨#[109,101,109,98,101,114]⟩:ByteArray),(.func (.func 17) #[] #[]:Value),2),((⟨#[109,97,112]⟩:ByteArray),(.func (.func 18) #[] #[]:Value),3),((⟨#[112,108,97,99,101]⟩:ByteArray),(.func (.func 19) #[] #[]:Value),4),((⟨#[109,101,116,97]⟩:ByteArray),(.func (.func 20) #[] #[]:Value),5),((⟨#[98,101,103,105,110]⟩:ByteArray),(.func (.func 21) #[] #[]:Value),6),((⟨#[100,101,108,101,116,101]⟩:ByteArray),(.func (.func 22) #[] #[]:Value),7),((⟨#[99,111,109,109,105,116]⟩:ByteArray),(.func (.func 23) #[] #[]:Value),8),((⟨#[97,98,111,114,116]⟩:ByteArray),(.func (.func 24) #[] #[]:Value),9),((⟨#[99,117,116]⟩:ByteArray),(.func (.func 25) #[] #[]:Value),10),((⟨#[109,111,118,101,100]⟩:ByteArray),(.func (.func 26) #[] #[]:Value),11),((⟨#[110,101,120,116]⟩:ByteArray),(.func (.func 27) #[] #[]:Value),12),((⟨#[108,105,115,116]⟩:ByteArray),(.func (.func 28) #[] #[]:Value),13),((⟨#[102,105,110,100]⟩:ByteArray),(.func (.func 29) #[] #[]:Value),14),((⟨#[112,108,97,110]⟩:ByteArray),(.func (.func 30) #[] #[]:Value),15)]
theorem commands_spec{S:Nat→Prop}{w:World}  :
 Calls Tryz.prog 11 #[] w (Ret fun v w'=>Ext w w'∧∃b:Nat,v=.map (some b)∧Hp w S [] [(b,mapO Value.string (fun v:Value=>v) cmdL16 16)] [] [] w'):=by
 refine qS (fn:=Tryz.f11) (n:=3) (σ:=[]) Tryz.func11 ?_
 have H:=Hp.startF (w:=w) (S:=S) (G:=[]) .nil
 refine qR 3 [.c [1,0],.c [2]] [] ?_
 refine qG (sq 0 19) ?_
 refine RW.new (κ:=.seq) (d:=some 1) (r:=(sq 1 19)) (o:=mapO Value.string (fun v:Value=>v) ([]:List (ByteArray×Value×Nat)) 0) (v:=fun b_=>.map (some b_)) (fun _=>by as_aux_lemma=>kernel_rfl) (nofun) H ?_
 intro b1 w2 H
 refine RW.mapSet (d:=none) (r:=(sq 2 19)) (T:=44) (mk:=Value.string) (vk:=(fun v:Value=>v)) (Kt:=9) (E:=42) (M':=[(b1,mapO Value.string (fun v:Value=>v) (mset (⟨#[99,111,100,101]⟩:ByteArray) (.func (.func 15) #[] #[]:Value) 0 ([]:List (ByteArray×Value×Nat))) (mclk (⟨#[99,111,100,101]⟩:ByteArray) 0 ([]:List (ByteArray×Value×Nat))))]) (⟨#[99,111,100,101]⟩:ByteArray) (.func (.func 15) #[] #[]:Value) (by as_aux_lemma=>kernel_rfl) H 0 rfl (KeyOk.str (by as_aux_lemma=>kernel_rfl)) (by as_aux_lemma=>kernel_rfl) rfl ?_
 intro w3 hCw3 H
 rw[show mset (⟨#[99,111,100,101]⟩:ByteArray) (.func (.func 15) #[] #[]:Value) 0 ([]:List (ByteArray×Value×Nat))=cmdL1 from by kernel_rfl,show mclk (⟨#[99,111,100,101]⟩:ByteArray) 0 ([]:List (ByteArray×Value×Nat))=1 from by kernel_rfl]at H
 have H:Hp w S [] [(b1,mapO Value.string (fun v:Value=>v) cmdL1 1)] [] [] _:=H
 refine RW.mapSet (d:=none) (r:=(sq 3 19)) (T:=44) (mk:=Value.string) (vk:=(fun v:Value=>v)) (Kt:=9) (E:=42) (M':=[(b1,mapO Value.string (fun v:Value=>v) (mset (⟨#[100,101,99,111,100,101]⟩:ByteArray) (.func (.func 16) #[] #[]:Value) 1 cmdL1) (mclk (⟨#[100,101,99,111,100,101]⟩:ByteArray) 1 cmdL1))]) (⟨#[100,101,99,111,100,101]⟩:ByteArray) (.func (.func 16) #[] #[]:Value) (by as_aux_lemma=>kernel_rfl) H 0 rfl (KeyOk.str (by as_aux_lemma=>kernel_rfl)) (by as_aux_lemma=>kernel_rfl) rfl ?_
 intro w4 hCw4 H
 rw[show mset (⟨#[100,101,99,111,100,101]⟩:ByteArray) (.func (.func 16) #[] #[]:Value) 1 cmdL1=cmdL2 from by kernel_rfl,show mclk (⟨#[100,101,99,111,100,101]⟩:ByteArray) 1 cmdL1=2 from by kernel_rfl]at H
 have H:Hp w S [] [(b1,mapO Value.string (fun v:Value=>v) cmdL2 2)] [] [] _:=H
 refine RW.mapSet (d:=none) (r:=(sq 4 19)) (T:=44) (mk:=Value.string) (vk:=(fun v:Value=>v)) (Kt:=9) (E:=42) (M':=[(b1,mapO Value.string (fun v:Value=>v) (mset (⟨#[109,101,109,98,101,114]⟩:ByteArray) (.func (.func 17) #[] #[]:Value) 2 cmdL2) (mclk (⟨#[109,101,109,98,101,114]⟩:ByteArray) 2 cmdL2))]) (⟨#[109,101,109,98,101,114]⟩:ByteArray) (.func (.func 17) #[] #[]:Value) (by as_aux_lemma=>kernel_rfl) H 0 rfl (KeyOk.str (by as_aux_lemma=>kernel_rfl)) (by as_aux_lemma=>kernel_rfl) rfl ?_
 intro w5 hCw5 H
 rw[show mset (⟨#[109,101,109,98,101,114]⟩:ByteArray) (.func (.func 17) #[] #[]:Value) 2 cmdL2=cmdL3 from by kernel_rfl,show mclk (⟨#[109,101,109,98,101,114]⟩:ByteArray) 2 cmdL2=3 from by kernel_rfl]at H
 have H:Hp w S [] [(b1,mapO Value.string (fun v:Value=>v) cmdL3 3)] [] [] _:=H
 refine RW.mapSet (d:=none) (r:=(sq 5 19)) (T:=44) (mk:=Value.string) (vk:=(fun v:Value=>v)) (Kt:=9) (E:=42) (M':=[(b1,mapO Value.string (fun v:Value=>v) (mset (⟨#[109,97,112]⟩:ByteArray) (.func (.func 18) #[] #[]:Value) 3 cmdL3) (mclk (⟨#[109,97,112]⟩:ByteArray) 3 cmdL3))]) (⟨#[109,97,112]⟩:ByteArray) (.func (.func 18) #[] #[]:Value) (by as_aux_lemma=>kernel_rfl) H 0 rfl (KeyOk.str (by as_aux_lemma=>kernel_rfl)) (by as_aux_lemma=>kernel_rfl) rfl ?_
 intro w6 hCw6 H
 rw[show mset (⟨#[109,97,112]⟩:ByteArray) (.func (.func 18) #[] #[]:Value) 3 cmdL3=cmdL4 from by kernel_rfl,show mclk (⟨#[109,97,112]⟩:ByteArray) 3 cmdL3=4 from by kernel_rfl]at H
 have H:Hp w S [] [(b1,mapO Value.string (fun v:Value=>v) cmdL4 4)] [] [] _:=H
 refine RW.mapSet (d:=none) (r:=(sq 6 19)) (T:=44) (mk:=Value.string) (vk:=(fun v:Value=>v)) (Kt:=9) (E:=42) (M':=[(b1,mapO Value.string (fun v:Value=>v) (mset (⟨#[112,108,97,99,101]⟩:ByteArray) (.func (.func 19) #[] #[]:Value) 4 cmdL4) (mclk (⟨#[112,108,97,99,101]⟩:ByteArray) 4 cmdL4))]) (⟨#[112,108,97,99,101]⟩:ByteArray) (.func (.func 19) #[] #[]:Value) (by as_aux_lemma=>kernel_rfl) H 0 rfl (KeyOk.str (by as_aux_lemma=>kernel_rfl)) (by as_aux_lemma=>kernel_rfl) rfl ?_
 intro w7 hCw7 H
 rw[show mset (⟨#[112,108,97,99,101]⟩:ByteArray) (.func (.func 19) #[] #[]:Value) 4 cmdL4=cmdL5 from by kernel_rfl,show mclk (⟨#[112,108,97,99,101]⟩:ByteArray) 4 cmdL4=5 from by kernel_rfl]at H
 have H:Hp w S [] [(b1,mapO Value.string (fun v:Value=>v) cmdL5 5)] [] [] _:=H
 refine RW.mapSet (d:=none) (r:=(sq 7 19)) (T:=44) (mk:=Value.string) (vk:=(fun v:Value=>v)) (Kt:=9) (E:=42) (M':=[(b1,mapO Value.string (fun v:Value=>v) (mset (⟨#[109,101,116,97]⟩:ByteArray) (.func (.func 20) #[] #[]:Value) 5 cmdL5) (mclk (⟨#[109,101,116,97]⟩:ByteArray) 5 cmdL5))]) (⟨#[109,101,116,97]⟩:ByteArray) (.func (.func 20) #[] #[]:Value) (by as_aux_lemma=>kernel_rfl) H 0 rfl (KeyOk.str (by as_aux_lemma=>kernel_rfl)) (by as_aux_lemma=>kernel_rfl) rfl ?_
 intro w8 hCw8 H
 rw[show mset (⟨#[109,101,116,97]⟩:ByteArray) (.func (.func 20) #[] #[]:Value) 5 cmdL5=cmdL6 from by kernel_rfl,show mclk (⟨#[109,101,116,97]⟩:ByteArray) 5 cmdL5=6 from by kernel_rfl]at H
 have H:Hp w S [] [(b1,mapO Value.string (fun v:Value=>v) cmdL6 6)] [] [] _:=H
 refine RW.mapSet (d:=none) (r:=(sq 8 19)) (T:=44) (mk:=Value.string) (vk:=(fun v:Value=>v)) (Kt:=9) (E:=42) (M':=[(b1,mapO Value.string (fun v:Value=>v) (mset (⟨#[98,101,103,105,110]⟩:ByteArray) (.func (.func 21) #[] #[]:Value) 6 cmdL6) (mclk (⟨#[98,101,103,105,110]⟩:ByteArray) 6 cmdL6))]) (⟨#[98,101,103,105,110]⟩:ByteArray) (.func (.func 21) #[] #[]:Value) (by as_aux_lemma=>kernel_rfl) H 0 rfl (KeyOk.str (by as_aux_lemma=>kernel_rfl)) (by as_aux_lemma=>kernel_rfl) rfl ?_
 intro w9 hCw9 H
 rw[show mset (⟨#[98,101,103,105,110]⟩:ByteArray) (.func (.func 21) #[] #[]:Value) 6 cmdL6=cmdL7 from by kernel_rfl,show mclk (⟨#[98,101,103,105,110]⟩:ByteArray) 6 cmdL6=7 from by kernel_rfl]at H
 have H:Hp w S [] [(b1,mapO Value.string (fun v:Value=>v) cmdL7 7)] [] [] _:=H
 refine RW.mapSet (d:=none) (r:=(sq 9 19)) (T:=44) (mk:=Value.string) (vk:=(fun v:Value=>v)) (Kt:=9) (E:=42) (M':=[(b1,mapO Value.string (fun v:Value=>v) (mset (⟨#[100,101,108,101,116,101]⟩:ByteArray) (.func (.func 22) #[] #[]:Value) 7 cmdL7) (mclk (⟨#[100,101,108,101,116,101]⟩:ByteArray) 7 cmdL7))]) (⟨#[100,101,108,101,116,101]⟩:ByteArray) (.func (.func 22) #[] #[]:Value) (by as_aux_lemma=>kernel_rfl) H 0 rfl (KeyOk.str (by as_aux_lemma=>kernel_rfl)) (by as_aux_lemma=>kernel_rfl) rfl ?_
 intro w10 hCw10 H
 rw[show mset (⟨#[100,101,108,101,116,101]⟩:ByteArray) (.func (.func 22) #[] #[]:Value) 7 cmdL7=cmdL8 from by kernel_rfl,show mclk (⟨#[100,101,108,101,116,101]⟩:ByteArray) 7 cmdL7=8 from by kernel_rfl]at H
 have H:Hp w S [] [(b1,mapO Value.string (fun v:Value=>v) cmdL8 8)] [] [] _:=H
 refine RW.mapSet (d:=none) (r:=(sq 10 19)) (T:=44) (mk:=Value.string) (vk:=(fun v:Value=>v)) (Kt:=9) (E:=42) (M':=[(b1,mapO Value.string (fun v:Value=>v) (mset (⟨#[99,111,109,109,105,116]⟩:ByteArray) (.func (.func 23) #[] #[]:Value) 8 cmdL8) (mclk (⟨#[99,111,109,109,105,116]⟩:ByteArray) 8 cmdL8))]) (⟨#[99,111,109,109,105,116]⟩:ByteArray) (.func (.func 23) #[] #[]:Value) (by as_aux_lemma=>kernel_rfl) H 0 rfl (KeyOk.str (by as_aux_lemma=>kernel_rfl)) (by as_aux_lemma=>kernel_rfl) rfl ?_
 intro w11 hCw11 H
 rw[show mset (⟨#[99,111,109,109,105,116]⟩:ByteArray) (.func (.func 23) #[] #[]:Value) 8 cmdL8=cmdL9 from by kernel_rfl,show mclk (⟨#[99,111,109,109,105,116]⟩:ByteArray) 8 cmdL8=9 from by kernel_rfl]at H
 have H:Hp w S [] [(b1,mapO Value.string (fun v:Value=>v) cmdL9 9)] [] [] _:=H
 refine RW.mapSet (d:=none) (r:=(sq 11 19)) (T:=44) (mk:=Value.string) (vk:=(fun v:Value=>v)) (Kt:=9) (E:=42) (M':=[(b1,mapO Value.string (fun v:Value=>v) (mset (⟨#[97,98,111,114,116]⟩:ByteArray) (.func (.func 24) #[] #[]:Value) 9 cmdL9) (mclk (⟨#[97,98,111,114,116]⟩:ByteArray) 9 cmdL9))]) (⟨#[97,98,111,114,116]⟩:ByteArray) (.func (.func 24) #[] #[]:Value) (by as_aux_lemma=>kernel_rfl) H 0 rfl (KeyOk.str (by as_aux_lemma=>kernel_rfl)) (by as_aux_lemma=>kernel_rfl) rfl ?_
 intro w12 hCw12 H
 rw[show mset (⟨#[97,98,111,114,116]⟩:ByteArray) (.func (.func 24) #[] #[]:Value) 9 cmdL9=cmdL10 from by kernel_rfl,show mclk (⟨#[97,98,111,114,116]⟩:ByteArray) 9 cmdL9=10 from by kernel_rfl]at H
 have H:Hp w S [] [(b1,mapO Value.string (fun v:Value=>v) cmdL10 10)] [] [] _:=H
 refine RW.mapSet (d:=none) (r:=(sq 12 19)) (T:=44) (mk:=Value.string) (vk:=(fun v:Value=>v)) (Kt:=9) (E:=42) (M':=[(b1,mapO Value.string (fun v:Value=>v) (mset (⟨#[99,117,116]⟩:ByteArray) (.func (.func 25) #[] #[]:Value) 10 cmdL10) (mclk (⟨#[99,117,116]⟩:ByteArray) 10 cmdL10))]) (⟨#[99,117,116]⟩:ByteArray) (.func (.func 25) #[] #[]:Value) (by as_aux_lemma=>kernel_rfl) H 0 rfl (KeyOk.str (by as_aux_lemma=>kernel_rfl)) (by as_aux_lemma=>kernel_rfl) rfl ?_
 intro w13 hCw13 H
 rw[show mset (⟨#[99,117,116]⟩:ByteArray) (.func (.func 25) #[] #[]:Value) 10 cmdL10=cmdL11 from by kernel_rfl,show mclk (⟨#[99,117,116]⟩:ByteArray) 10 cmdL10=11 from by kernel_rfl]at H
 have H:Hp w S [] [(b1,mapO Value.string (fun v:Value=>v) cmdL11 11)] [] [] _:=H
 refine RW.mapSet (d:=none) (r:=(sq 13 19)) (T:=44) (mk:=Value.string) (vk:=(fun v:Value=>v)) (Kt:=9) (E:=42) (M':=[(b1,mapO Value.string (fun v:Value=>v) (mset (⟨#[109,111,118,101,100]⟩:ByteArray) (.func (.func 26) #[] #[]:Value) 11 cmdL11) (mclk (⟨#[109,111,118,101,100]⟩:ByteArray) 11 cmdL11))]) (⟨#[109,111,118,101,100]⟩:ByteArray) (.func (.func 26) #[] #[]:Value) (by as_aux_lemma=>kernel_rfl) H 0 rfl (KeyOk.str (by as_aux_lemma=>kernel_rfl)) (by as_aux_lemma=>kernel_rfl) rfl ?_
 intro w14 hCw14 H
 rw[show mset (⟨#[109,111,118,101,100]⟩:ByteArray) (.func (.func 26) #[] #[]:Value) 11 cmdL11=cmdL12 from by kernel_rfl,show mclk (⟨#[109,111,118,101,100]⟩:ByteArray) 11 cmdL11=12 from by kernel_rfl]at H
 have H:Hp w S [] [(b1,mapO Value.string (fun v:Value=>v) cmdL12 12)] [] [] _:=H
 refine RW.mapSet (d:=none) (r:=(sq 14 19)) (T:=44) (mk:=Value.string) (vk:=(fun v:Value=>v)) (Kt:=9) (E:=42) (M':=[(b1,mapO Value.string (fun v:Value=>v) (mset (⟨#[110,101,120,116]⟩:ByteArray) (.func (.func 27) #[] #[]:Value) 12 cmdL12) (mclk (⟨#[110,101,120,116]⟩:ByteArray) 12 cmdL12))]) (⟨#[110,101,120,116]⟩:ByteArray) (.func (.func 27) #[] #[]:Value) (by as_aux_lemma=>kernel_rfl) H 0 rfl (KeyOk.str (by as_aux_lemma=>kernel_rfl)) (by as_aux_lemma=>kernel_rfl) rfl ?_
 intro w15 hCw15 H
 rw[show mset (⟨#[110,101,120,116]⟩:ByteArray) (.func (.func 27) #[] #[]:Value) 12 cmdL12=cmdL13 from by kernel_rfl,show mclk (⟨#[110,101,120,116]⟩:ByteArray) 12 cmdL12=13 from by kernel_rfl]at H
 have H:Hp w S [] [(b1,mapO Value.string (fun v:Value=>v) cmdL13 13)] [] [] _:=H
 refine RW.mapSet (d:=none) (r:=(sq 15 19)) (T:=44) (mk:=Value.string) (vk:=(fun v:Value=>v)) (Kt:=9) (E:=42) (M':=[(b1,mapO Value.string (fun v:Value=>v) (mset (⟨#[108,105,115,116]⟩:ByteArray) (.func (.func 28) #[] #[]:Value) 13 cmdL13) (mclk (⟨#[108,105,115,116]⟩:ByteArray) 13 cmdL13))]) (⟨#[108,105,115,116]⟩:ByteArray) (.func (.func 28) #[] #[]:Value) (by as_aux_lemma=>kernel_rfl) H 0 rfl (KeyOk.str (by as_aux_lemma=>kernel_rfl)) (by as_aux_lemma=>kernel_rfl) rfl ?_
 intro w16 hCw16 H
 rw[show mset (⟨#[108,105,115,116]⟩:ByteArray) (.func (.func 28) #[] #[]:Value) 13 cmdL13=cmdL14 from by kernel_rfl,show mclk (⟨#[108,105,115,116]⟩:ByteArray) 13 cmdL13=14 from by kernel_rfl]at H
 have H:Hp w S [] [(b1,mapO Value.string (fun v:Value=>v) cmdL14 14)] [] [] _:=H
 refine RW.mapSet (d:=none) (r:=(sq 16 19)) (T:=44) (mk:=Value.string) (vk:=(fun v:Value=>v)) (Kt:=9) (E:=42) (M':=[(b1,mapO Value.string (fun v:Value=>v) (mset (⟨#[102,105,110,100]⟩:ByteArray) (.func (.func 29) #[] #[]:Value) 14 cmdL14) (mclk (⟨#[102,105,110,100]⟩:ByteArray) 14 cmdL14))]) (⟨#[102,105,110,100]⟩:ByteArray) (.func (.func 29) #[] #[]:Value) (by as_aux_lemma=>kernel_rfl) H 0 rfl (KeyOk.str (by as_aux_lemma=>kernel_rfl)) (by as_aux_lemma=>kernel_rfl) rfl ?_
 intro w17 hCw17 H
 rw[show mset (⟨#[102,105,110,100]⟩:ByteArray) (.func (.func 29) #[] #[]:Value) 14 cmdL14=cmdL15 from by kernel_rfl,show mclk (⟨#[102,105,110,100]⟩:ByteArray) 14 cmdL14=15 from by kernel_rfl]at H
 have H:Hp w S [] [(b1,mapO Value.string (fun v:Value=>v) cmdL15 15)] [] [] _:=H
 refine RW.mapSet (d:=none) (r:=(sq 17 19)) (T:=44) (mk:=Value.string) (vk:=(fun v:Value=>v)) (Kt:=9) (E:=42) (M':=[(b1,mapO Value.string (fun v:Value=>v) (mset (⟨#[112,108,97,110]⟩:ByteArray) (.func (.func 30) #[] #[]:Value) 15 cmdL15) (mclk (⟨#[112,108,97,110]⟩:ByteArray) 15 cmdL15))]) (⟨#[112,108,97,110]⟩:ByteArray) (.func (.func 30) #[] #[]:Value) (by as_aux_lemma=>kernel_rfl) H 0 rfl (KeyOk.str (by as_aux_lemma=>kernel_rfl)) (by as_aux_lemma=>kernel_rfl) rfl ?_
 intro w18 hCw18 H
 rw[show mset (⟨#[112,108,97,110]⟩:ByteArray) (.func (.func 30) #[] #[]:Value) 15 cmdL15=cmdL16 from by kernel_rfl,show mclk (⟨#[112,108,97,110]⟩:ByteArray) 15 cmdL15=16 from by kernel_rfl]at H
 have H:Hp w S [] [(b1,mapO Value.string (fun v:Value=>v) cmdL16 16)] [] [] _:=H
 refine qF 2 [(0,.map (some b1))] ?_
 refine qT (.map (some b1)) Tryz.func11 ?_
 exact⟨_,rfl,H.done,_,rfl,H.pick [] rfl⟩
theorem words_lit{S:Nat→Prop}{w:World}{s:ByteArray}{ws:List ByteArray}(hw:wordsB s=ws)(hs:s.size<4294967281)(hq:(Fz cQ).p S w):Calls Tryz.prog 10 #[.string s] w (Ret fun v w'=>Ext w w'∧Hp w S [] [] [⟨Shape.str,9,v,ws⟩] [] w'):=by
 subst hw
 exact words_spec hs hq
set_option maxHeartbeats 1000000 in
theorem do_member{S:Nat→Prop}{w:World}{O:List Nat}{cb:Nat}  (H0:Hp w S O [(cb,.cells #[.bool true,.int .u64 1,.slice none 0 0,.pointer none] 38 (0,0))] [] [Fz cQ] w):
 Calls Tryz.prog 7 #[.P cb 0,.string (⟨#[109,101,109,98,101,114,32,49,32,53]⟩:ByteArray)] w (Ret fun v w'=>∃(a':Option Addr)(c':Nat),v=.string (⟨#[111,107,10]⟩:ByteArray)∧Hp w S O [(cb,.cells #[.bool true,.int .u64 2,.slice a' 1 c',.pointer none] 38 (0,0))] [] [Rp (Shape.slice memS) [.slice a' 1 c'] ([(⟨1,5⟩:Mem)]:List Mem)] w'):=by
 refine qS (fn:=Tryz.f7) (n:=57) (σ:=[(0,.P cb 0),(1,.string (⟨#[109,101,109,98,101,114,32,49,32,53]⟩:ByteArray))]) Tryz.func7 ?_
 have H:=H0
 refine qR 4 [.c [1,0,0],.c [1,0,1],.c [2]] [(0,.P cb 0),(1,.string (⟨#[109,101,109,98,101,114,32,49,32,53]⟩:ByteArray))] ?_
 refine qG (sq 0 9) ?_
 refine qP 6 (sq 6 9) [(0,.P cb 0),(1,.string (⟨#[109,101,109,98,101,114,32,49,32,53]⟩:ByteArray)),(13,.bool false),(16,.P cb 0)] ?_
 refine qL .seq 17 (sq 7 9) 4 cb 0 0 (.bool true) (H.cells 0 rfl) ?_
 refine qF 2 [(0,.P cb 0),(1,.string (⟨#[109,101,109,98,101,114,32,49,32,53]⟩:ByteArray)),(19,.bool false)] ?_
 refine qR 3 [.c [2,0],.c [3]] [(0,.P cb 0),(1,.string (⟨#[109,101,109,98,101,114,32,49,32,53]⟩:ByteArray))] ?_
 refine qG (sq 0 3) ?_
 refine qP 1 (sq 1 3) [(0,.P cb 0),(20,.string (⟨#[109,101,109,98,101,114,32,49,32,53]⟩:ByteArray))] ?_
 refine qK .seq (some 21) (sq 2 3) 10 #[.string (⟨#[109,101,109,98,101,114,32,49,32,53]⟩:ByteArray)] (words_lit (S:=Av S w O (idsOf [(cb,.cells #[.bool true,.int .u64 1,.slice none 0 0,.pointer none] 38 (0,0))] [])) (s:=(⟨#[109,101,109,98,101,114,32,49,32,53]⟩:ByteArray)) (ws:=[(⟨#[109,101,109,98,101,114]⟩:ByteArray),digB 1,digB 5]) (by rw[dig1,dig5];kernel_rfl) (by decide) (H.fact 0 rfl)) ?_
 rintro v2 w1-H'
 have H:=H.back (M1:=[]) (W1:=[]) H'
 obtain⟨a3,c4,rfl,hc5,hm6⟩:=H.ownForm 0 rfl
 have H:Hp w S O [(cb,.cells #[.bool true,.int .u64 1,.slice none 0 0,.pointer none] 38 (0,0))] [⟨Shape.str,9,.slice a3 3 c4,([(⟨#[109,101,109,98,101,114]⟩:ByteArray),digB 1,digB 5]:List ByteArray)⟩] [Fz cQ] _:=H
 have H:Hp w S O [(cb,.cells #[.bool true,.int .u64 1,.slice none 0 0,.pointer none] 38 (0,0))] [] [Rp (Shape.slice Shape.str) [.slice a3 3 c4] ([(⟨#[109,101,109,98,101,114]⟩:ByteArray),digB 1,digB 5]:List ByteArray),Fz cQ] _:=H.freezeW 0 rfl
 refine qF 1 [(0,.P cb 0),(5,.slice a3 3 c4)] ?_
 refine qR 2 [.c [3,0,0],.c [3,0,1],.c [4]] [(0,.P cb 0),(5,.slice a3 3 c4)] ?_
 refine qG (sq 0 10) ?_
 refine qP 5 (sq 5 10) [(0,.P cb 0),(5,.slice a3 3 c4),(25,.bool false),(26,.slice a3 3 c4)] ?_
 have hx7:0<([(⟨#[109,101,109,98,101,114]⟩:ByteArray),digB 1,digB 5]:List ByteArray).length:=by decide
 refine qX .seq 27 (sq 6 10) 22 9 0 Shape.str (⟨#[109,101,109,98,101,114]⟩:ByteArray) H 0 rfl 0 (by omega) (rfl) ?_
 intro b8 o9 es10 hr11 H
 obtain⟨rfl,hshr11⟩:=hr11
 have H:Hp w S O [(cb,.cells #[.bool true,.int .u64 1,.slice none 0 0,.pointer none] 38 (0,0))] [] [Fc b8 o9 [.string (⟨#[109,101,109,98,101,114]⟩:ByteArray)],Rp (Shape.slice Shape.str) [.slice a3 3 c4] ([(⟨#[109,101,109,98,101,114]⟩:ByteArray),digB 1,digB 5]:List ByteArray),Fz cQ] _:=H
 refine qL .seq 28 (sq 7 10) 9 b8 o9 0 (.string (⟨#[109,101,109,98,101,114]⟩:ByteArray)) (H.fc 0 rfl) ?_
 refine RW.strAt (κ:=.seq) (d:=some 29) (r:=(sq 8 10)) (T:=9) (s:=(⟨#[109,101,109,98,101,114]⟩:ByteArray)) (k:=.i64) (t:=0) 0 (by as_aux_lemma=>kernel_rfl) (by as_aux_lemma=>kernel_rfl) (by omega) (by decide) ?_
 refine qF 2 [(0,.P cb 0),(5,.slice a3 3 c4),(31,.bool false)] ?_
 refine qR 3 [.c [4,0],.c [5]] [(0,.P cb 0),(5,.slice a3 3 c4)] ?_
 have H:=H.pick [1,2] rfl
 refine WK.draw1 10 [(1,.qui),(2,.qui),(3,.qui),(0,.chn),(4,.qui),(5,.qui),(6,.qui),(7,.qui),(8,.qui),(9,.qui)] [(1,.qui),(2,.qui),(3,.qui),(0,.chn),(4,.qui),(5,.qui),(6,.qui),(7,.qui),(8,.qui),(9,.qui)] Tryz_mixed (by as_aux_lemma=>kernel_rfl) (by as_aux_lemma=>kernel_rfl) (by as_aux_lemma=>kernel_rfl) ?_
 have H:=H.draw
 generalize({w1 with drawn:=w1.drawn+1}:World)=w12 at H⊢
 refine qP 1 [(2,.qui),(3,.qui),(0,.chn),(4,.qui),(5,.qui),(6,.qui),(7,.qui),(8,.qui),(9,.qui)] [(0,.P cb 0),(5,.slice a3 3 c4),(34,.slice a3 3 c4)] ?_
 have hx13:0<([(⟨#[109,101,109,98,101,114]⟩:ByteArray),digB 1,digB 5]:List ByteArray).length:=by decide
 refine qX .qui 35 [(3,.qui),(0,.chn),(4,.qui),(5,.qui),(6,.qui),(7,.qui),(8,.qui),(9,.qui)] 22 9 0 Shape.str (⟨#[109,101,109,98,101,114]⟩:ByteArray) H 0 rfl 0 (by omega) (rfl) ?_
 intro b14 o15 es16 hr17 H
 obtain⟨rfl,hshr17⟩:=hr17
 have H:Hp w S O [(cb,.cells #[.bool true,.int .u64 1,.slice none 0 0,.pointer none] 38 (0,0))] [] [Fc b14 o15 [.string (⟨#[109,101,109,98,101,114]⟩:ByteArray)],Rp (Shape.slice Shape.str) [.slice a3 3 c4] ([(⟨#[109,101,109,98,101,114]⟩:ByteArray),digB 1,digB 5]:List ByteArray),Fz cQ] _:=H
 refine qL .qui 36 [(0,.chn),(4,.qui),(5,.qui),(6,.qui),(7,.qui),(8,.qui),(9,.qui)] 9 b14 o15 0 (.string (⟨#[109,101,109,98,101,114]⟩:ByteArray)) (H.fc 0 rfl) ?_
 refine qK .chn (some 33) (qs [4,5,6,7,8,9]) 11 #[] (commands_spec (S:=Av S w O (idsOf [(cb,.cells #[.bool true,.int .u64 1,.slice none 0 0,.pointer none] 38 (0,0))] []))) ?_
 rintro _ w18-⟨b19,rfl,H'⟩
 have H:=H.back (M1:=[]) (W1:=[]) H'
 have H:Hp w S O [(b19,mapO Value.string (fun v:Value=>v) cmdL16 16),(cb,.cells #[.bool true,.int .u64 1,.slice none 0 0,.pointer none] 38 (0,0))] [] [Fc b14 o15 [.string (⟨#[109,101,109,98,101,114]⟩:ByteArray)],Rp (Shape.slice Shape.str) [.slice a3 3 c4] ([(⟨#[109,101,109,98,101,114]⟩:ByteArray),digB 1,digB 5]:List ByteArray),Fz cQ] _:=H
 refine RW.mapGet (κ:=.qui) (d:=some 37) (r:=(qs [5,6,7,8,9])) (T:=44) (mk:=Value.string) (vk:=(fun v:Value=>v)) (Kt:=9) (E:=42) (z:=(.nilFunc:Value)) (⟨#[109,101,109,98,101,114]⟩:ByteArray) true (by as_aux_lemma=>kernel_rfl) H 0 rfl (KeyOk.str (by as_aux_lemma=>kernel_rfl)) (by as_aux_lemma=>kernel_rfl) (fun w_=>zeroE_run (by as_aux_lemma=>kernel_rfl) w_) ?_
 refine qF 5 [(0,.P cb 0),(5,.slice a3 3 c4),(6,.func (.func 17) #[] #[]),(7,.bool true)] ?_
 refine qR 6 [.c [6,0],.c [7]] [(0,.P cb 0),(5,.slice a3 3 c4),(6,.func (.func 17) #[] #[])] ?_
 have H:=H.dropM 0
 have H:=H.pick [1,2] rfl
 refine qG (sq 0 10) ?_
 refine qP 3 (sq 3 10) [(44,.func (.func 17) #[] #[]),(45,.P cb 0),(46,.slice a3 3 c4)] ?_
 refine RW.slice (κ:=.seq) (d:=some 47) (r:=(sq 4 10)) (T:=22) (e:=9) (sh:=Shape.str) (a:=a3) (len:=3) (cap:=c4) (zs:=(([1,5]:List Nat).map digB)) (lv:=(some (.I 1))) (hv:=none) (by as_aux_lemma=>kernel_rfl) (by as_aux_lemma=>kernel_rfl) H 0 rfl 1 3 (.mk (by omega)) .nil (by decide) (by decide) (rfl) ?_
 intro a20 H
 refine RW.callS (d:=some 48) (r:=(sq 5 10)) (g:=17) (args:=#[.P cb 0,.slice a20 ((([1,5]:List Nat).map digB).length) (c4-1)]) (by as_aux_lemma=>kernel_rfl) (member0 ((H.lend (M1:=[(cb,.cells #[.bool true,.int .u64 1,.slice none 0 0,.pointer none] 38 (0,0))]) (W1:=[])).pick [0,2] rfl)) ?_
 rintro _ w21⟨a22,c23,rfl,H'⟩
 have H:=H.back (M1:=[(cb,.cells #[.bool true,.int .u64 1,.slice none 0 0,.pointer none] 38 (0,0))]) (W1:=[]) H'
 have H:Hp w S O [(cb,.cells #[.bool true,.int .u64 2,.slice a22 1 c23,.pointer none] 38 (0,0))] [] [Rp (Shape.slice memS) [.slice a22 1 c23] ([(⟨1,5⟩:Mem)]:List Mem),Rp (Shape.slice Shape.str) [.slice a20 ((([1,5]:List Nat).map digB).length) (c4-1)] (([1,5]:List Nat).map digB),Rp (Shape.slice Shape.str) [.slice a3 3 c4] ([(⟨#[109,101,109,98,101,114]⟩:ByteArray),digB 1,digB 5]:List ByteArray),Fz cQ] _:=H
 refine qF 5 [(8,.string (⟨#[111,107,10]⟩:ByteArray)),(9,.nilIface)] ?_
 refine qR 1 [.c [7,0],.c [8]] [(8,.string (⟨#[111,107,10]⟩:ByteArray)),(9,.nilIface)] ?_
 have H:=H.pick [0,3] rfl
 refine qG (sq 0 1) ?_
 refine qB .seq 10 (sq 1 1) #[.I 0] 46 H ?_
 intro b24 w25 H
 refine qF 0 [(8,.string (⟨#[111,107,10]⟩:ByteArray)),(9,.nilIface),(10,.P b24 0)] ?_
 refine qR 2 [.c [8,0,0],.c [8,0,1],.c [9]] [(8,.string (⟨#[111,107,10]⟩:ByteArray)),(9,.nilIface),(10,.P b24 0)] ?_
 refine qG (sq 0 3) ?_
 refine qP 2 (sq 2 3) [(8,.string (⟨#[111,107,10]⟩:ByteArray)),(10,.P b24 0),(51,.nilIface),(52,.iface 52 (.P b24 0))] ?_
 refine qK .seq (some 53) (sq 3 3) 13 #[.nilIface,.iface 52 (.P b24 0)] (as_nil (S:=fun _=>True)) ?_
 rintro _ w26 hE27 rfl
 have H:=H.ext hE27
 refine qF 0 [(8,.string (⟨#[111,107,10]⟩:ByteArray)),(10,.P b24 0),(53,.bool false)] ?_
 refine qR 4 [.c [10]] [(4,.string (⟨#[111,107,10]⟩:ByteArray))] ?_
 refine qT (.string (⟨#[111,107,10]⟩:ByteArray)) Tryz.func7 ?_
 have H:=H.frontM 1 (M':=[(cb,.cells #[.bool true,.int .u64 2,.slice a22 1 c23,.pointer none] 38 (0,0)),(b24,.cells #[.I 0] 46 (0,0))]) rfl
 have H:=H.drop (M':=[(cb,.cells #[.bool true,.int .u64 2,.slice a22 1 c23,.pointer none] 38 (0,0))]) (W':=[]) (by repeat(first|exact List.Sublist.refl _|exact List.nil_sublist _|apply List.Sublist.cons_cons|apply List.Sublist.cons)) (by repeat(first|exact List.Sublist.refl _|exact List.nil_sublist _|apply List.Sublist.cons_cons|apply List.Sublist.cons))
 exact⟨_,rfl,_,_,rfl,H.pick [0] rfl⟩
set_option maxHeartbeats 1000000 in
theorem do_map{S:Nat→Prop}{w:World}{O:List Nat}{cb:Nat}{am:Option Addr}{cm:Nat}(H0:Hp w S O [(cb,.cells #[.bool true,.int .u64 2,.slice am 1 cm,.pointer none] 38 (0,0))] [] [Fz cQ,Rp (Shape.slice memS) [.slice am 1 cm] ([(⟨1,5⟩:Mem)]:List Mem)] w):
 Calls Tryz.prog 7 #[.P cb 0,.string (⟨#[109,97,112]⟩:ByteArray)] w (Ret fun v w'=>v=.string (⟨#[101,112,111,99,104,32,50,32,49,58,53,10]⟩:ByteArray)∧Hp w S O [(cb,.cells #[.bool true,.int .u64 2,.slice am 1 cm,.pointer none] 38 (0,0))] [] [Rp (Shape.slice memS) [.slice am 1 cm] ([(⟨1,5⟩:Mem)]:List Mem)] w'):=by
 refine qS (fn:=Tryz.f7) (n:=57) (σ:=[(0,.P cb 0),(1,.string (⟨#[109,97,112]⟩:ByteArray))]) Tryz.func7 ?_
 have H:=H0
 refine qR 4 [.c [1,0,0],.c [1,0,1],.c [2]] [(0,.P cb 0),(1,.string (⟨#[109,97,112]⟩:ByteArray))] ?_
 refine qG (sq 0 9) ?_
 refine qP 6 (sq 6 9) [(0,.P cb 0),(1,.string (⟨#[109,97,112]⟩:ByteArray)),(13,.bool false),(16,.P cb 0)] ?_
 refine qL .seq 17 (sq 7 9) 4 cb 0 0 (.bool true) (H.cells 0 rfl) ?_
 refine qF 2 [(0,.P cb 0),(1,.string (⟨#[109,97,112]⟩:ByteArray)),(19,.bool false)] ?_
 refine qR 3 [.c [2,0],.c [3]] [(0,.P cb 0),(1,.string (⟨#[109,97,112]⟩:ByteArray))] ?_
 refine qG (sq 0 3) ?_
 refine qP 1 (sq 1 3) [(0,.P cb 0),(20,.string (⟨#[109,97,112]⟩:ByteArray))] ?_
 refine qK .seq (some 21) (sq 2 3) 10 #[.string (⟨#[109,97,112]⟩:ByteArray)] (words_lit (S:=Av S w O (idsOf [(cb,.cells #[.bool true,.int .u64 2,.slice am 1 cm,.pointer none] 38 (0,0))] [])) (s:=(⟨#[109,97,112]⟩:ByteArray)) (ws:=[(⟨#[109,97,112]⟩:ByteArray)]) (by kernel_rfl) (by decide) (H.fact 0 rfl)) ?_
 rintro v2 w1-H'
 have H:=H.back (M1:=[]) (W1:=[]) H'
 obtain⟨a3,c4,rfl,hc5,hm6⟩:=H.ownForm 0 rfl
 have H:Hp w S O [(cb,.cells #[.bool true,.int .u64 2,.slice am 1 cm,.pointer none] 38 (0,0))] [⟨Shape.str,9,.slice a3 1 c4,([(⟨#[109,97,112]⟩:ByteArray)]:List ByteArray)⟩] [Fz cQ,Rp (Shape.slice memS) [.slice am 1 cm] ([(⟨1,5⟩:Mem)]:List Mem)] _:=H
 have H:Hp w S O [(cb,.cells #[.bool true,.int .u64 2,.slice am 1 cm,.pointer none] 38 (0,0))] [] [Rp (Shape.slice Shape.str) [.slice a3 1 c4] ([(⟨#[109,97,112]⟩:ByteArray)]:List ByteArray),Fz cQ,Rp (Shape.slice memS) [.slice am 1 cm] ([(⟨1,5⟩:Mem)]:List Mem)] _:=H.freezeW 0 rfl
 refine qF 1 [(0,.P cb 0),(5,.slice a3 1 c4)] ?_
 refine qR 2 [.c [3,0,0],.c [3,0,1],.c [4]] [(0,.P cb 0),(5,.slice a3 1 c4)] ?_
 refine qG (sq 0 10) ?_
 refine qP 5 (sq 5 10) [(0,.P cb 0),(5,.slice a3 1 c4),(25,.bool false),(26,.slice a3 1 c4)] ?_
 have hx7:0<([(⟨#[109,97,112]⟩:ByteArray)]:List ByteArray).length:=by decide
 refine qX .seq 27 (sq 6 10) 22 9 0 Shape.str (⟨#[109,97,112]⟩:ByteArray) H 0 rfl 0 (by omega) (rfl) ?_
 intro b8 o9 es10 hr11 H
 obtain⟨rfl,hshr11⟩:=hr11
 have H:Hp w S O [(cb,.cells #[.bool true,.int .u64 2,.slice am 1 cm,.pointer none] 38 (0,0))] [] [Fc b8 o9 [.string (⟨#[109,97,112]⟩:ByteArray)],Rp (Shape.slice Shape.str) [.slice a3 1 c4] ([(⟨#[109,97,112]⟩:ByteArray)]:List ByteArray),Fz cQ,Rp (Shape.slice memS) [.slice am 1 cm] ([(⟨1,5⟩:Mem)]:List Mem)] _:=H
 refine qL .seq 28 (sq 7 10) 9 b8 o9 0 (.string (⟨#[109,97,112]⟩:ByteArray)) (H.fc 0 rfl) ?_
 refine RW.strAt (κ:=.seq) (d:=some 29) (r:=(sq 8 10)) (T:=9) (s:=(⟨#[109,97,112]⟩:ByteArray)) (k:=.i64) (t:=0) 0 (by as_aux_lemma=>kernel_rfl) (by as_aux_lemma=>kernel_rfl) (by omega) (by decide) ?_
 refine qF 2 [(0,.P cb 0),(5,.slice a3 1 c4),(31,.bool false)] ?_
 refine qR 3 [.c [4,0],.c [5]] [(0,.P cb 0),(5,.slice a3 1 c4)] ?_
 have H:=H.pick [1,2,3] rfl
 refine WK.draw1 10 [(1,.qui),(2,.qui),(3,.qui),(0,.chn),(4,.qui),(5,.qui),(6,.qui),(7,.qui),(8,.qui),(9,.qui)] [(1,.qui),(2,.qui),(3,.qui),(0,.chn),(4,.qui),(5,.qui),(6,.qui),(7,.qui),(8,.qui),(9,.qui)] Tryz_mixed (by as_aux_lemma=>kernel_rfl) (by as_aux_lemma=>kernel_rfl) (by as_aux_lemma=>kernel_rfl) ?_
 have H:=H.draw
 generalize({w1 with drawn:=w1.drawn+1}:World)=w12 at H⊢
 refine qP 1 [(2,.qui),(3,.qui),(0,.chn),(4,.qui),(5,.qui),(6,.qui),(7,.qui),(8,.qui),(9,.qui)] [(0,.P cb 0),(5,.slice a3 1 c4),(34,.slice a3 1 c4)] ?_
 have hx13:0<([(⟨#[109,97,112]⟩:ByteArray)]:List ByteArray).length:=by decide
 refine qX .qui 35 [(3,.qui),(0,.chn),(4,.qui),(5,.qui),(6,.qui),(7,.qui),(8,.qui),(9,.qui)] 22 9 0 Shape.str (⟨#[109,97,112]⟩:ByteArray) H 0 rfl 0 (by omega) (rfl) ?_
 intro b14 o15 es16 hr17 H
 obtain⟨rfl,hshr17⟩:=hr17
 have H:Hp w S O [(cb,.cells #[.bool true,.int .u64 2,.slice am 1 cm,.pointer none] 38 (0,0))] [] [Fc b14 o15 [.string (⟨#[109,97,112]⟩:ByteArray)],Rp (Shape.slice Shape.str) [.slice a3 1 c4] ([(⟨#[109,97,112]⟩:ByteArray)]:List ByteArray),Fz cQ,Rp (Shape.slice memS) [.slice am 1 cm] ([(⟨1,5⟩:Mem)]:List Mem)] _:=H
 refine qL .qui 36 [(0,.chn),(4,.qui),(5,.qui),(6,.qui),(7,.qui),(8,.qui),(9,.qui)] 9 b14 o15 0 (.string (⟨#[109,97,112]⟩:ByteArray)) (H.fc 0 rfl) ?_
 refine qK .chn (some 33) (qs [4,5,6,7,8,9]) 11 #[] (commands_spec (S:=Av S w O (idsOf [(cb,.cells #[.bool true,.int .u64 2,.slice am 1 cm,.pointer none] 38 (0,0))] []))) ?_
 rintro _ w18-⟨b19,rfl,H'⟩
 have H:=H.back (M1:=[]) (W1:=[]) H'
 have H:Hp w S O [(b19,mapO Value.string (fun v:Value=>v) cmdL16 16),(cb,.cells #[.bool true,.int .u64 2,.slice am 1 cm,.pointer none] 38 (0,0))] [] [Fc b14 o15 [.string (⟨#[109,97,112]⟩:ByteArray)],Rp (Shape.slice Shape.str) [.slice a3 1 c4] ([(⟨#[109,97,112]⟩:ByteArray)]:List ByteArray),Fz cQ,Rp (Shape.slice memS) [.slice am 1 cm] ([(⟨1,5⟩:Mem)]:List Mem)] _:=H
 refine RW.mapGet (κ:=.qui) (d:=some 37) (r:=(qs [5,6,7,8,9])) (T:=44) (mk:=Value.string) (vk:=(fun v:Value=>v)) (Kt:=9) (E:=42) (z:=(.nilFunc:Value)) (⟨#[109,97,112]⟩:ByteArray) true (by as_aux_lemma=>kernel_rfl) H 0 rfl (KeyOk.str (by as_aux_lemma=>kernel_rfl)) (by as_aux_lemma=>kernel_rfl) (fun w_=>zeroE_run (by as_aux_lemma=>kernel_rfl) w_) ?_
 refine qF 5 [(0,.P cb 0),(5,.slice a3 1 c4),(6,.func (.func 18) #[] #[]),(7,.bool true)] ?_
 refine qR 6 [.c [6,0],.c [7]] [(0,.P cb 0),(5,.slice a3 1 c4),(6,.func (.func 18) #[] #[])] ?_
 have H:=H.dropM 0
 have H:=H.pick [1,2,3] rfl
 refine qG (sq 0 10) ?_
 refine qP 3 (sq 3 10) [(44,.func (.func 18) #[] #[]),(45,.P cb 0),(46,.slice a3 1 c4)] ?_
 refine RW.slice (κ:=.seq) (d:=some 47) (r:=(sq 4 10)) (T:=22) (e:=9) (sh:=Shape.str) (a:=a3) (len:=1) (cap:=c4) (zs:=([]:List ByteArray)) (lv:=(some (.I 1))) (hv:=none) (by as_aux_lemma=>kernel_rfl) (by as_aux_lemma=>kernel_rfl) H 0 rfl 1 1 (.mk (by omega)) .nil (by decide) (by decide) (rfl) ?_
 intro a20 H
 refine RW.callS (d:=some 48) (r:=(sq 5 10)) (g:=18) (args:=#[.P cb 0,.slice a20 ([]:List ByteArray).length (c4-1)]) (by as_aux_lemma=>kernel_rfl) (show1 ((H.lend (M1:=[(cb,.cells #[.bool true,.int .u64 2,.slice am 1 cm,.pointer none] 38 (0,0))]) (W1:=[])).pick [0,2,3] rfl)) ?_
 rintro _ w21⟨rfl,H'⟩
 have H:=H.back (M1:=[(cb,.cells #[.bool true,.int .u64 2,.slice am 1 cm,.pointer none] 38 (0,0))]) (W1:=[]) H'
 have H:Hp w S O [(cb,.cells #[.bool true,.int .u64 2,.slice am 1 cm,.pointer none] 38 (0,0))] [] [Rp (Shape.slice memS) [.slice am 1 cm] ([(⟨1,5⟩:Mem)]:List Mem),Rp (Shape.slice Shape.str) [.slice a20 ([]:List ByteArray).length (c4-1)] ([]:List ByteArray),Rp (Shape.slice Shape.str) [.slice a3 1 c4] ([(⟨#[109,97,112]⟩:ByteArray)]:List ByteArray),Fz cQ,Rp (Shape.slice memS) [.slice am 1 cm] ([(⟨1,5⟩:Mem)]:List Mem)] _:=H
 refine qF 5 [(8,.string (⟨#[101,112,111,99,104,32,50,32,49,58,53,10]⟩:ByteArray)),(9,.nilIface)] ?_
 refine qR 1 [.c [7,0],.c [8]] [(8,.string (⟨#[101,112,111,99,104,32,50,32,49,58,53,10]⟩:ByteArray)),(9,.nilIface)] ?_
 have H:=H.pick [0,3,4] rfl
 refine qG (sq 0 1) ?_
 refine qB .seq 10 (sq 1 1) #[.I 0] 46 H ?_
 intro b22 w23 H
 refine qF 0 [(8,.string (⟨#[101,112,111,99,104,32,50,32,49,58,53,10]⟩:ByteArray)),(9,.nilIface),(10,.P b22 0)] ?_
 refine qR 2 [.c [8,0,0],.c [8,0,1],.c [9]] [(8,.string (⟨#[101,112,111,99,104,32,50,32,49,58,53,10]⟩:ByteArray)),(9,.nilIface),(10,.P b22 0)] ?_
 refine qG (sq 0 3) ?_
 refine qP 2 (sq 2 3) [(8,.string (⟨#[101,112,111,99,104,32,50,32,49,58,53,10]⟩:ByteArray)),(10,.P b22 0),(51,.nilIface),(52,.iface 52 (.P b22 0))] ?_
 refine qK .seq (some 53) (sq 3 3) 13 #[.nilIface,.iface 52 (.P b22 0)] (as_nil (S:=fun _=>True)) ?_
 rintro _ w24 hE25 rfl
 have H:=H.ext hE25
 refine qF 0 [(8,.string (⟨#[101,112,111,99,104,32,50,32,49,58,53,10]⟩:ByteArray)),(10,.P b22 0),(53,.bool false)] ?_
 refine qR 4 [.c [10]] [(4,.string (⟨#[101,112,111,99,104,32,50,32,49,58,53,10]⟩:ByteArray))] ?_
 refine qT (.string (⟨#[101,112,111,99,104,32,50,32,49,58,53,10]⟩:ByteArray)) Tryz.func7 ?_
 have H:=H.frontM 1 (M':=[(cb,.cells #[.bool true,.int .u64 2,.slice am 1 cm,.pointer none] 38 (0,0)),(b22,.cells #[.I 0] 46 (0,0))]) rfl
 have H:=H.drop (M':=[(cb,.cells #[.bool true,.int .u64 2,.slice am 1 cm,.pointer none] 38 (0,0))]) (W':=[]) (by repeat(first|exact List.Sublist.refl _|exact List.nil_sublist _|apply List.Sublist.cons_cons|apply List.Sublist.cons)) (by repeat(first|exact List.Sublist.refl _|exact List.nil_sublist _|apply List.Sublist.cons_cons|apply List.Sublist.cons))
 exact⟨_,rfl,rfl,H.pick [0] rfl⟩
set_option maxHeartbeats 1000000 in
theorem do_place{S:Nat→Prop}{w:World}{O:List Nat}{cb:Nat}{am:Option Addr}{cm:Nat}(H0:Hp w S O [(cb,.cells #[.bool true,.int .u64 2,.slice am 1 cm,.pointer none] 38 (0,0))] [] [Fz cQ,Rp (Shape.slice memS) [.slice am 1 cm] ([(⟨1,5⟩:Mem)]:List Mem)] w):
 Calls Tryz.prog 7 #[.P cb 0,.string (⟨#[112,108,97,99,101,32,48,32,49]⟩:ByteArray)] w (Ret fun v w'=>v=.string (⟨#[49,10]⟩:ByteArray)∧Hp w S O [(cb,.cells #[.bool true,.int .u64 2,.slice am 1 cm,.pointer none] 38 (0,0))] [] [Rp (Shape.slice memS) [.slice am 1 cm] ([(⟨1,5⟩:Mem)]:List Mem)] w'):=by
 refine qS (fn:=Tryz.f7) (n:=57) (σ:=[(0,.P cb 0),(1,.string (⟨#[112,108,97,99,101,32,48,32,49]⟩:ByteArray))]) Tryz.func7 ?_
 have H:=H0
 refine qR 4 [.c [1,0,0],.c [1,0,1],.c [2]] [(0,.P cb 0),(1,.string (⟨#[112,108,97,99,101,32,48,32,49]⟩:ByteArray))] ?_
 refine qG (sq 0 9) ?_
 refine qP 6 (sq 6 9) [(0,.P cb 0),(1,.string (⟨#[112,108,97,99,101,32,48,32,49]⟩:ByteArray)),(13,.bool false),(16,.P cb 0)] ?_
 refine qL .seq 17 (sq 7 9) 4 cb 0 0 (.bool true) (H.cells 0 rfl) ?_
 refine qF 2 [(0,.P cb 0),(1,.string (⟨#[112,108,97,99,101,32,48,32,49]⟩:ByteArray)),(19,.bool false)] ?_
 refine qR 3 [.c [2,0],.c [3]] [(0,.P cb 0),(1,.string (⟨#[112,108,97,99,101,32,48,32,49]⟩:ByteArray))] ?_
 refine qG (sq 0 3) ?_
 refine qP 1 (sq 1 3) [(0,.P cb 0),(20,.string (⟨#[112,108,97,99,101,32,48,32,49]⟩:ByteArray))] ?_
 refine qK .seq (some 21) (sq 2 3) 10 #[.string (⟨#[112,108,97,99,101,32,48,32,49]⟩:ByteArray)] (words_lit (S:=Av S w O (idsOf [(cb,.cells #[.bool true,.int .u64 2,.slice am 1 cm,.pointer none] 38 (0,0))] [])) (s:=(⟨#[112,108,97,99,101,32,48,32,49]⟩:ByteArray)) (ws:=[(⟨#[112,108,97,99,101]⟩:ByteArray),digB 0,digB 1]) (by rw[dig0,dig1];kernel_rfl) (by decide) (H.fact 0 rfl)) ?_
 rintro v2 w1-H'
 have H:=H.back (M1:=[]) (W1:=[]) H'
 obtain⟨a3,c4,rfl,hc5,hm6⟩:=H.ownForm 0 rfl
 have H:Hp w S O [(cb,.cells #[.bool true,.int .u64 2,.slice am 1 cm,.pointer none] 38 (0,0))] [⟨Shape.str,9,.slice a3 3 c4,([(⟨#[112,108,97,99,101]⟩:ByteArray),digB 0,digB 1]:List ByteArray)⟩] [Fz cQ,Rp (Shape.slice memS) [.slice am 1 cm] ([(⟨1,5⟩:Mem)]:List Mem)] _:=H
 have H:Hp w S O [(cb,.cells #[.bool true,.int .u64 2,.slice am 1 cm,.pointer none] 38 (0,0))] [] [Rp (Shape.slice Shape.str) [.slice a3 3 c4] ([(⟨#[112,108,97,99,101]⟩:ByteArray),digB 0,digB 1]:List ByteArray),Fz cQ,Rp (Shape.slice memS) [.slice am 1 cm] ([(⟨1,5⟩:Mem)]:List Mem)] _:=H.freezeW 0 rfl
 refine qF 1 [(0,.P cb 0),(5,.slice a3 3 c4)] ?_
 refine qR 2 [.c [3,0,0],.c [3,0,1],.c [4]] [(0,.P cb 0),(5,.slice a3 3 c4)] ?_
 refine qG (sq 0 10) ?_
 refine qP 5 (sq 5 10) [(0,.P cb 0),(5,.slice a3 3 c4),(25,.bool false),(26,.slice a3 3 c4)] ?_
 have hx7:0<([(⟨#[112,108,97,99,101]⟩:ByteArray),digB 0,digB 1]:List ByteArray).length:=by decide
 refine qX .seq 27 (sq 6 10) 22 9 0 Shape.str (⟨#[112,108,97,99,101]⟩:ByteArray) H 0 rfl 0 (by omega) (rfl) ?_
 intro b8 o9 es10 hr11 H
 obtain⟨rfl,hshr11⟩:=hr11
 have H:Hp w S O [(cb,.cells #[.bool true,.int .u64 2,.slice am 1 cm,.pointer none] 38 (0,0))] [] [Fc b8 o9 [.string (⟨#[112,108,97,99,101]⟩:ByteArray)],Rp (Shape.slice Shape.str) [.slice a3 3 c4] ([(⟨#[112,108,97,99,101]⟩:ByteArray),digB 0,digB 1]:List ByteArray),Fz cQ,Rp (Shape.slice memS) [.slice am 1 cm] ([(⟨1,5⟩:Mem)]:List Mem)] _:=H
 refine qL .seq 28 (sq 7 10) 9 b8 o9 0 (.string (⟨#[112,108,97,99,101]⟩:ByteArray)) (H.fc 0 rfl) ?_
 refine RW.strAt (κ:=.seq) (d:=some 29) (r:=(sq 8 10)) (T:=9) (s:=(⟨#[112,108,97,99,101]⟩:ByteArray)) (k:=.i64) (t:=0) 0 (by as_aux_lemma=>kernel_rfl) (by as_aux_lemma=>kernel_rfl) (by omega) (by decide) ?_
 refine qF 2 [(0,.P cb 0),(5,.slice a3 3 c4),(31,.bool false)] ?_
 refine qR 3 [.c [4,0],.c [5]] [(0,.P cb 0),(5,.slice a3 3 c4)] ?_
 have H:=H.pick [1,2,3] rfl
 refine WK.draw1 10 [(1,.qui),(2,.qui),(3,.qui),(0,.chn),(4,.qui),(5,.qui),(6,.qui),(7,.qui),(8,.qui),(9,.qui)] [(1,.qui),(2,.qui),(3,.qui),(0,.chn),(4,.qui),(5,.qui),(6,.qui),(7,.qui),(8,.qui),(9,.qui)] Tryz_mixed (by as_aux_lemma=>kernel_rfl) (by as_aux_lemma=>kernel_rfl) (by as_aux_lemma=>kernel_rfl) ?_
 have H:=H.draw
 generalize({w1 with drawn:=w1.drawn+1}:World)=w12 at H⊢
 refine qP 1 [(2,.qui),(3,.qui),(0,.chn),(4,.qui),(5,.qui),(6,.qui),(7,.qui),(8,.qui),(9,.qui)] [(0,.P cb 0),(5,.slice a3 3 c4),(34,.slice a3 3 c4)] ?_
 have hx13:0<([(⟨#[112,108,97,99,101]⟩:ByteArray),digB 0,digB 1]:List ByteArray).length:=by decide
 refine qX .qui 35 [(3,.qui),(0,.chn),(4,.qui),(5,.qui),(6,.qui),(7,.qui),(8,.qui),(9,.qui)] 22 9 0 Shape.str (⟨#[112,108,97,99,101]⟩:ByteArray) H 0 rfl 0 (by omega) (rfl) ?_
 intro b14 o15 es16 hr17 H
 obtain⟨rfl,hshr17⟩:=hr17
 have H:Hp w S O [(cb,.cells #[.bool true,.int .u64 2,.slice am 1 cm,.pointer none] 38 (0,0))] [] [Fc b14 o15 [.string (⟨#[112,108,97,99,101]⟩:ByteArray)],Rp (Shape.slice Shape.str) [.slice a3 3 c4] ([(⟨#[112,108,97,99,101]⟩:ByteArray),digB 0,digB 1]:List ByteArray),Fz cQ,Rp (Shape.slice memS) [.slice am 1 cm] ([(⟨1,5⟩:Mem)]:List Mem)] _:=H
 refine qL .qui 36 [(0,.chn),(4,.qui),(5,.qui),(6,.qui),(7,.qui),(8,.qui),(9,.qui)] 9 b14 o15 0 (.string (⟨#[112,108,97,99,101]⟩:ByteArray)) (H.fc 0 rfl) ?_
 refine qK .chn (some 33) (qs [4,5,6,7,8,9]) 11 #[] (commands_spec (S:=Av S w O (idsOf [(cb,.cells #[.bool true,.int .u64 2,.slice am 1 cm,.pointer none] 38 (0,0))] []))) ?_
 rintro _ w18-⟨b19,rfl,H'⟩
 have H:=H.back (M1:=[]) (W1:=[]) H'
 have H:Hp w S O [(b19,mapO Value.string (fun v:Value=>v) cmdL16 16),(cb,.cells #[.bool true,.int .u64 2,.slice am 1 cm,.pointer none] 38 (0,0))] [] [Fc b14 o15 [.string (⟨#[112,108,97,99,101]⟩:ByteArray)],Rp (Shape.slice Shape.str) [.slice a3 3 c4] ([(⟨#[112,108,97,99,101]⟩:ByteArray),digB 0,digB 1]:List ByteArray),Fz cQ,Rp (Shape.slice memS) [.slice am 1 cm] ([(⟨1,5⟩:Mem)]:List Mem)] _:=H
 refine RW.mapGet (κ:=.qui) (d:=some 37) (r:=(qs [5,6,7,8,9])) (T:=44) (mk:=Value.string) (vk:=(fun v:Value=>v)) (Kt:=9) (E:=42) (z:=(.nilFunc:Value)) (⟨#[112,108,97,99,101]⟩:ByteArray) true (by as_aux_lemma=>kernel_rfl) H 0 rfl (KeyOk.str (by as_aux_lemma=>kernel_rfl)) (by as_aux_lemma=>kernel_rfl) (fun w_=>zeroE_run (by as_aux_lemma=>kernel_rfl) w_) ?_
 refine qF 5 [(0,.P cb 0),(5,.slice a3 3 c4),(6,.func (.func 19) #[] #[]),(7,.bool true)] ?_
 refine qR 6 [.c [6,0],.c [7]] [(0,.P cb 0),(5,.slice a3 3 c4),(6,.func (.func 19) #[] #[])] ?_
 have H:=H.dropM 0
 have H:=H.pick [1,2,3] rfl
 refine qG (sq 0 10) ?_
 refine qP 3 (sq 3 10) [(44,.func (.func 19) #[] #[]),(45,.P cb 0),(46,.slice a3 3 c4)] ?_
 refine RW.slice (κ:=.seq) (d:=some 47) (r:=(sq 4 10)) (T:=22) (e:=9) (sh:=Shape.str) (a:=a3) (len:=3) (cap:=c4) (zs:=(([0,1]:List Nat).map digB)) (lv:=(some (.I 1))) (hv:=none) (by as_aux_lemma=>kernel_rfl) (by as_aux_lemma=>kernel_rfl) H 0 rfl 1 3 (.mk (by omega)) .nil (by decide) (by decide) (rfl) ?_
 intro a20 H
 refine RW.callS (d:=some 48) (r:=(sq 5 10)) (g:=19) (args:=#[.P cb 0,.slice a20 ((([0,1]:List Nat).map digB).length) (c4-1)]) (by as_aux_lemma=>kernel_rfl) (place1 ((H.lend (M1:=[(cb,.cells #[.bool true,.int .u64 2,.slice am 1 cm,.pointer none] 38 (0,0))]) (W1:=[])).pick [0,2,3] rfl)) ?_
 rintro _ w21⟨rfl,H'⟩
 have H:=H.back (M1:=[(cb,.cells #[.bool true,.int .u64 2,.slice am 1 cm,.pointer none] 38 (0,0))]) (W1:=[]) H'
 have H:Hp w S O [(cb,.cells #[.bool true,.int .u64 2,.slice am 1 cm,.pointer none] 38 (0,0))] [] [Rp (Shape.slice memS) [.slice am 1 cm] ([(⟨1,5⟩:Mem)]:List Mem),Rp (Shape.slice Shape.str) [.slice a20 ((([0,1]:List Nat).map digB).length) (c4-1)] (([0,1]:List Nat).map digB),Rp (Shape.slice Shape.str) [.slice a3 3 c4] ([(⟨#[112,108,97,99,101]⟩:ByteArray),digB 0,digB 1]:List ByteArray),Fz cQ,Rp (Shape.slice memS) [.slice am 1 cm] ([(⟨1,5⟩:Mem)]:List Mem)] _:=H
 refine qF 5 [(8,.string (⟨#[49,10]⟩:ByteArray)),(9,.nilIface)] ?_
 refine qR 1 [.c [7,0],.c [8]] [(8,.string (⟨#[49,10]⟩:ByteArray)),(9,.nilIface)] ?_
 have H:=H.pick [0,3,4] rfl
 refine qG (sq 0 1) ?_
 refine qB .seq 10 (sq 1 1) #[.I 0] 46 H ?_
 intro b22 w23 H
 refine qF 0 [(8,.string (⟨#[49,10]⟩:ByteArray)),(9,.nilIface),(10,.P b22 0)] ?_
 refine qR 2 [.c [8,0,0],.c [8,0,1],.c [9]] [(8,.string (⟨#[49,10]⟩:ByteArray)),(9,.nilIface),(10,.P b22 0)] ?_
 refine qG (sq 0 3) ?_
 refine qP 2 (sq 2 3) [(8,.string (⟨#[49,10]⟩:ByteArray)),(10,.P b22 0),(51,.nilIface),(52,.iface 52 (.P b22 0))] ?_
 refine qK .seq (some 53) (sq 3 3) 13 #[.nilIface,.iface 52 (.P b22 0)] (as_nil (S:=fun _=>True)) ?_
 rintro _ w24 hE25 rfl
 have H:=H.ext hE25
 refine qF 0 [(8,.string (⟨#[49,10]⟩:ByteArray)),(10,.P b22 0),(53,.bool false)] ?_
 refine qR 4 [.c [10]] [(4,.string (⟨#[49,10]⟩:ByteArray))] ?_
 refine qT (.string (⟨#[49,10]⟩:ByteArray)) Tryz.func7 ?_
 have H:=H.frontM 1 (M':=[(cb,.cells #[.bool true,.int .u64 2,.slice am 1 cm,.pointer none] 38 (0,0)),(b22,.cells #[.I 0] 46 (0,0))]) rfl
 have H:=H.drop (M':=[(cb,.cells #[.bool true,.int .u64 2,.slice am 1 cm,.pointer none] 38 (0,0))]) (W':=[]) (by repeat(first|exact List.Sublist.refl _|exact List.nil_sublist _|apply List.Sublist.cons_cons|apply List.Sublist.cons)) (by repeat(first|exact List.Sublist.refl _|exact List.nil_sublist _|apply List.Sublist.cons_cons|apply List.Sublist.cons))
 exact⟨_,rfl,rfl,H.pick [0] rfl⟩
set_option maxHeartbeats 1000000 in
theorem do_list{S:Nat→Prop}{w:World}{O:List Nat}{cb:Nat}{x1 x2:Value}(H0:Hp w S O [(cb,.cells #[.bool true,x1,x2,.pointer none] 38 (0,0))] [] [Fz cQ] w):
 Calls Tryz.prog 7 #[.P cb 0,.string (⟨#[108,105,115,116]⟩:ByteArray)] w (Ret fun v w'=>v=.string (⟨#[101,114,114,111,114,32,49,53,49,10]⟩:ByteArray)∧Hp w S O [(cb,.cells #[.bool true,x1,x2,.pointer none] 38 (0,0))] [] [] w'):=by
 refine qS (fn:=Tryz.f7) (n:=57) (σ:=[(0,.P cb 0),(1,.string (⟨#[108,105,115,116]⟩:ByteArray))]) Tryz.func7 ?_
 have H:=H0
 refine qR 4 [.c [1,0,0],.c [1,0,1],.c [2]] [(0,.P cb 0),(1,.string (⟨#[108,105,115,116]⟩:ByteArray))] ?_
 refine qG (sq 0 9) ?_
 refine qP 6 (sq 6 9) [(0,.P cb 0),(1,.string (⟨#[108,105,115,116]⟩:ByteArray)),(13,.bool false),(16,.P cb 0)] ?_
 refine qL .seq 17 (sq 7 9) 4 cb 0 0 (.bool true) (H.cells 0 rfl) ?_
 refine qF 2 [(0,.P cb 0),(1,.string (⟨#[108,105,115,116]⟩:ByteArray)),(19,.bool false)] ?_
 refine qR 3 [.c [2,0],.c [3]] [(0,.P cb 0),(1,.string (⟨#[108,105,115,116]⟩:ByteArray))] ?_
 refine qG (sq 0 3) ?_
 refine qP 1 (sq 1 3) [(0,.P cb 0),(20,.string (⟨#[108,105,115,116]⟩:ByteArray))] ?_
 refine qK .seq (some 21) (sq 2 3) 10 #[.string (⟨#[108,105,115,116]⟩:ByteArray)] (words_lit (S:=Av S w O (idsOf [(cb,.cells #[.bool true,x1,x2,.pointer none] 38 (0,0))] [])) (s:=(⟨#[108,105,115,116]⟩:ByteArray)) (ws:=[(⟨#[108,105,115,116]⟩:ByteArray)]) (by kernel_rfl) (by decide) (H.fact 0 rfl)) ?_
 rintro v2 w1-H'
 have H:=H.back (M1:=[]) (W1:=[]) H'
 obtain⟨a3,c4,rfl,hc5,hm6⟩:=H.ownForm 0 rfl
 have H:Hp w S O [(cb,.cells #[.bool true,x1,x2,.pointer none] 38 (0,0))] [⟨Shape.str,9,.slice a3 1 c4,([(⟨#[108,105,115,116]⟩:ByteArray)]:List ByteArray)⟩] [Fz cQ] _:=H
 have H:Hp w S O [(cb,.cells #[.bool true,x1,x2,.pointer none] 38 (0,0))] [] [Rp (Shape.slice Shape.str) [.slice a3 1 c4] ([(⟨#[108,105,115,116]⟩:ByteArray)]:List ByteArray),Fz cQ] _:=H.freezeW 0 rfl
 refine qF 1 [(0,.P cb 0),(5,.slice a3 1 c4)] ?_
 refine qR 2 [.c [3,0,0],.c [3,0,1],.c [4]] [(0,.P cb 0),(5,.slice a3 1 c4)] ?_
 refine qG (sq 0 10) ?_
 refine qP 5 (sq 5 10) [(0,.P cb 0),(5,.slice a3 1 c4),(25,.bool false),(26,.slice a3 1 c4)] ?_
 have hx7:0<([(⟨#[108,105,115,116]⟩:ByteArray)]:List ByteArray).length:=by decide
 refine qX .seq 27 (sq 6 10) 22 9 0 Shape.str (⟨#[108,105,115,116]⟩:ByteArray) H 0 rfl 0 (by omega) (rfl) ?_
 intro b8 o9 es10 hr11 H
 obtain⟨rfl,hshr11⟩:=hr11
 have H:Hp w S O [(cb,.cells #[.bool true,x1,x2,.pointer none] 38 (0,0))] [] [Fc b8 o9 [.string (⟨#[108,105,115,116]⟩:ByteArray)],Rp (Shape.slice Shape.str) [.slice a3 1 c4] ([(⟨#[108,105,115,116]⟩:ByteArray)]:List ByteArray),Fz cQ] _:=H
 refine qL .seq 28 (sq 7 10) 9 b8 o9 0 (.string (⟨#[108,105,115,116]⟩:ByteArray)) (H.fc 0 rfl) ?_
 refine RW.strAt (κ:=.seq) (d:=some 29) (r:=(sq 8 10)) (T:=9) (s:=(⟨#[108,105,115,116]⟩:ByteArray)) (k:=.i64) (t:=0) 0 (by as_aux_lemma=>kernel_rfl) (by as_aux_lemma=>kernel_rfl) (by omega) (by decide) ?_
 refine qF 2 [(0,.P cb 0),(5,.slice a3 1 c4),(31,.bool false)] ?_
 refine qR 3 [.c [4,0],.c [5]] [(0,.P cb 0),(5,.slice a3 1 c4)] ?_
 have H:=H.pick [1,2] rfl
 refine WK.draw1 10 [(1,.qui),(2,.qui),(3,.qui),(0,.chn),(4,.qui),(5,.qui),(6,.qui),(7,.qui),(8,.qui),(9,.qui)] [(1,.qui),(2,.qui),(3,.qui),(0,.chn),(4,.qui),(5,.qui),(6,.qui),(7,.qui),(8,.qui),(9,.qui)] Tryz_mixed (by as_aux_lemma=>kernel_rfl) (by as_aux_lemma=>kernel_rfl) (by as_aux_lemma=>kernel_rfl) ?_
 have H:=H.draw
 generalize({w1 with drawn:=w1.drawn+1}:World)=w12 at H⊢
 refine qP 1 [(2,.qui),(3,.qui),(0,.chn),(4,.qui),(5,.qui),(6,.qui),(7,.qui),(8,.qui),(9,.qui)] [(0,.P cb 0),(5,.slice a3 1 c4),(34,.slice a3 1 c4)] ?_
 have hx13:0<([(⟨#[108,105,115,116]⟩:ByteArray)]:List ByteArray).length:=by decide
 refine qX .qui 35 [(3,.qui),(0,.chn),(4,.qui),(5,.qui),(6,.qui),(7,.qui),(8,.qui),(9,.qui)] 22 9 0 Shape.str (⟨#[108,105,115,116]⟩:ByteArray) H 0 rfl 0 (by omega) (rfl) ?_
 intro b14 o15 es16 hr17 H
 obtain⟨rfl,hshr17⟩:=hr17
 have H:Hp w S O [(cb,.cells #[.bool true,x1,x2,.pointer none] 38 (0,0))] [] [Fc b14 o15 [.string (⟨#[108,105,115,116]⟩:ByteArray)],Rp (Shape.slice Shape.str) [.slice a3 1 c4] ([(⟨#[108,105,115,116]⟩:ByteArray)]:List ByteArray),Fz cQ] _:=H
 refine qL .qui 36 [(0,.chn),(4,.qui),(5,.qui),(6,.qui),(7,.qui),(8,.qui),(9,.qui)] 9 b14 o15 0 (.string (⟨#[108,105,115,116]⟩:ByteArray)) (H.fc 0 rfl) ?_
 refine qK .chn (some 33) (qs [4,5,6,7,8,9]) 11 #[] (commands_spec (S:=Av S w O (idsOf [(cb,.cells #[.bool true,x1,x2,.pointer none] 38 (0,0))] []))) ?_
 rintro _ w18-⟨b19,rfl,H'⟩
 have H:=H.back (M1:=[]) (W1:=[]) H'
 have H:Hp w S O [(b19,mapO Value.string (fun v:Value=>v) cmdL16 16),(cb,.cells #[.bool true,x1,x2,.pointer none] 38 (0,0))] [] [Fc b14 o15 [.string (⟨#[108,105,115,116]⟩:ByteArray)],Rp (Shape.slice Shape.str) [.slice a3 1 c4] ([(⟨#[108,105,115,116]⟩:ByteArray)]:List ByteArray),Fz cQ] _:=H
 refine RW.mapGet (κ:=.qui) (d:=some 37) (r:=(qs [5,6,7,8,9])) (T:=44) (mk:=Value.string) (vk:=(fun v:Value=>v)) (Kt:=9) (E:=42) (z:=(.nilFunc:Value)) (⟨#[108,105,115,116]⟩:ByteArray) true (by as_aux_lemma=>kernel_rfl) H 0 rfl (KeyOk.str (by as_aux_lemma=>kernel_rfl)) (by as_aux_lemma=>kernel_rfl) (fun w_=>zeroE_run (by as_aux_lemma=>kernel_rfl) w_) ?_
 refine qF 5 [(0,.P cb 0),(5,.slice a3 1 c4),(6,.func (.func 28) #[] #[]),(7,.bool true)] ?_
 refine qR 6 [.c [6,0],.c [7]] [(0,.P cb 0),(5,.slice a3 1 c4),(6,.func (.func 28) #[] #[])] ?_
 have H:=H.dropM 0
 have H:=H.pick [1,2] rfl
 refine qG (sq 0 10) ?_
 refine qP 3 (sq 3 10) [(44,.func (.func 28) #[] #[]),(45,.P cb 0),(46,.slice a3 1 c4)] ?_
 refine RW.slice (κ:=.seq) (d:=some 47) (r:=(sq 4 10)) (T:=22) (e:=9) (sh:=Shape.str) (a:=a3) (len:=1) (cap:=c4) (zs:=([]:List ByteArray)) (lv:=(some (.I 1))) (hv:=none) (by as_aux_lemma=>kernel_rfl) (by as_aux_lemma=>kernel_rfl) H 0 rfl 1 1 (.mk (by omega)) .nil (by decide) (by decide) (rfl) ?_
 intro a20 H
 refine RW.callS (d:=some 48) (r:=(sq 5 10)) (g:=28) (args:=#[.P cb 0,.slice a20 ([]:List ByteArray).length (c4-1)]) (by as_aux_lemma=>kernel_rfl) (list0 ((H.lend (M1:=[(cb,.cells #[.bool true,x1,x2,.pointer none] 38 (0,0))]) (W1:=[])).pick [0,2] rfl)) ?_
 rintro _ w21⟨rfl,H'⟩
 have H:=H.back (M1:=[(cb,.cells #[.bool true,x1,x2,.pointer none] 38 (0,0))]) (W1:=[]) H'
 have H:Hp w S O [(cb,.cells #[.bool true,x1,x2,.pointer none] 38 (0,0))] [] [Rp (Shape.slice Shape.str) [.slice a20 ([]:List ByteArray).length (c4-1)] ([]:List ByteArray),Rp (Shape.slice Shape.str) [.slice a3 1 c4] ([(⟨#[108,105,115,116]⟩:ByteArray)]:List ByteArray),Fz cQ] _:=H
 refine qF 5 [(8,.string (⟨#[110,111,110,101,10]⟩:ByteArray)),(9,.iface 46 (.I 151))] ?_
 refine qR 1 [.c [7,0],.c [8]] [(8,.string (⟨#[110,111,110,101,10]⟩:ByteArray)),(9,.iface 46 (.I 151))] ?_
 have H:=H.pick [2] rfl
 refine qG (sq 0 1) ?_
 refine qB .seq 10 (sq 1 1) #[.I 0] 46 H ?_
 intro b22 w23 H
 refine qF 0 [(8,.string (⟨#[110,111,110,101,10]⟩:ByteArray)),(9,.iface 46 (.I 151)),(10,.P b22 0)] ?_
 refine qR 2 [.c [8,0,0],.c [8,0,1],.c [9]] [(8,.string (⟨#[110,111,110,101,10]⟩:ByteArray)),(9,.iface 46 (.I 151)),(10,.P b22 0)] ?_
 refine qG (sq 0 3) ?_
 refine qP 2 (sq 2 3) [(8,.string (⟨#[110,111,110,101,10]⟩:ByteArray)),(10,.P b22 0),(51,.iface 46 (.I 151)),(52,.iface 52 (.P b22 0))] ?_
 refine RW.callS (d:=some 53) (r:=(sq 3 3)) (g:=13) (args:=#[.iface 46 (.I 151),.iface 52 (.P b22 0)]) (by as_aux_lemma=>kernel_rfl) (as_ref H (Fz.of (H.fact 0 rfl))) ?_
 rintro _ w24⟨rfl,H⟩
 refine qF 0 [(8,.string (⟨#[110,111,110,101,10]⟩:ByteArray)),(10,.P b22 0),(53,.bool true)] ?_
 refine qR 2 [.c [8,0,1,0,0],.c [8,0,1,0,1],.c [9]] [(10,.P b22 0)] ?_
 refine qG (sq 0 3) ?_
 refine qL .seq 54 (sq 1 3) 46 b22 0 0 (.I 151) (H.cells 0 rfl) ?_
 refine qK .seq (some 55) (sq 2 3) 12 #[.I 151] (error151 (H.fact 0 rfl)) ?_
 rintro _ w25 hE26 rfl
 have H:=H.ext hE26
 refine qF 1 [(4,.string (⟨#[101,114,114,111,114,32,49,53,49,10]⟩:ByteArray))] ?_
 refine qT (.string (⟨#[101,114,114,111,114,32,49,53,49,10]⟩:ByteArray)) Tryz.func7 ?_
 have H:=H.frontM 1 (M':=[(cb,.cells #[.bool true,x1,x2,.pointer none] 38 (0,0)),(b22,.cells #[.I 151] 46 (0,0))]) rfl
 have H:=H.drop (M':=[(cb,.cells #[.bool true,x1,x2,.pointer none] 38 (0,0))]) (W':=[]) (by repeat(first|exact List.Sublist.refl _|exact List.nil_sublist _|apply List.Sublist.cons_cons|apply List.Sublist.cons)) (by repeat(first|exact List.Sublist.refl _|exact List.nil_sublist _|apply List.Sublist.cons_cons|apply List.Sublist.cons))
 exact⟨_,rfl,rfl,H.pick [] rfl⟩
set_option maxHeartbeats 1000000 in
theorem do_code{S:Nat→Prop}{w:World}{O:List Nat}{cb:Nat}{x1 x2:Value}(H0:Hp w S O [(cb,.cells #[.bool true,x1,x2,.pointer none] 38 (0,0))] [] [Fz cQ] w):
 Calls Tryz.prog 7 #[.P cb 0,.string (⟨#[99,111,100,101,32,49,32,49,32,54,49]⟩:ByteArray)] w (Ret fun v w'=>v=.string (⟨#[54,49,10]⟩:ByteArray)∧Hp w S O [(cb,.cells #[.bool true,x1,x2,.pointer none] 38 (0,0))] [] [] w'):=by
 refine qS (fn:=Tryz.f7) (n:=57) (σ:=[(0,.P cb 0),(1,.string (⟨#[99,111,100,101,32,49,32,49,32,54,49]⟩:ByteArray))]) Tryz.func7 ?_
 have H:=H0
 refine qR 4 [.c [1,0,0],.c [1,0,1],.c [2]] [(0,.P cb 0),(1,.string (⟨#[99,111,100,101,32,49,32,49,32,54,49]⟩:ByteArray))] ?_
 refine qG (sq 0 9) ?_
 refine qP 6 (sq 6 9) [(0,.P cb 0),(1,.string (⟨#[99,111,100,101,32,49,32,49,32,54,49]⟩:ByteArray)),(13,.bool false),(16,.P cb 0)] ?_
 refine qL .seq 17 (sq 7 9) 4 cb 0 0 (.bool true) (H.cells 0 rfl) ?_
 refine qF 2 [(0,.P cb 0),(1,.string (⟨#[99,111,100,101,32,49,32,49,32,54,49]⟩:ByteArray)),(19,.bool false)] ?_
 refine qR 3 [.c [2,0],.c [3]] [(0,.P cb 0),(1,.string (⟨#[99,111,100,101,32,49,32,49,32,54,49]⟩:ByteArray))] ?_
 refine qG (sq 0 3) ?_
 refine qP 1 (sq 1 3) [(0,.P cb 0),(20,.string (⟨#[99,111,100,101,32,49,32,49,32,54,49]⟩:ByteArray))] ?_
 refine qK .seq (some 21) (sq 2 3) 10 #[.string (⟨#[99,111,100,101,32,49,32,49,32,54,49]⟩:ByteArray)] (words_lit (S:=Av S w O (idsOf [(cb,.cells #[.bool true,x1,x2,.pointer none] 38 (0,0))] [])) (s:=(⟨#[99,111,100,101,32,49,32,49,32,54,49]⟩:ByteArray)) (ws:=[(⟨#[99,111,100,101]⟩:ByteArray),digB 1,digB 1,(⟨#[54,49]⟩:ByteArray)]) (by rw[dig1];kernel_rfl) (by decide) (H.fact 0 rfl)) ?_
 rintro v2 w1-H'
 have H:=H.back (M1:=[]) (W1:=[]) H'
 obtain⟨a3,c4,rfl,hc5,hm6⟩:=H.ownForm 0 rfl
 have H:Hp w S O [(cb,.cells #[.bool true,x1,x2,.pointer none] 38 (0,0))] [⟨Shape.str,9,.slice a3 4 c4,([(⟨#[99,111,100,101]⟩:ByteArray),digB 1,digB 1,(⟨#[54,49]⟩:ByteArray)]:List ByteArray)⟩] [Fz cQ] _:=H
 have H:Hp w S O [(cb,.cells #[.bool true,x1,x2,.pointer none] 38 (0,0))] [] [Rp (Shape.slice Shape.str) [.slice a3 4 c4] ([(⟨#[99,111,100,101]⟩:ByteArray),digB 1,digB 1,(⟨#[54,49]⟩:ByteArray)]:List ByteArray),Fz cQ] _:=H.freezeW 0 rfl
 refine qF 1 [(0,.P cb 0),(5,.slice a3 4 c4)] ?_
 refine qR 2 [.c [3,0,0],.c [3,0,1],.c [4]] [(0,.P cb 0),(5,.slice a3 4 c4)] ?_
 refine qG (sq 0 10) ?_
 refine qP 5 (sq 5 10) [(0,.P cb 0),(5,.slice a3 4 c4),(25,.bool false),(26,.slice a3 4 c4)] ?_
 have hx7:0<([(⟨#[99,111,100,101]⟩:ByteArray),digB 1,digB 1,(⟨#[54,49]⟩:ByteArray)]:List ByteArray).length:=by decide
 refine qX .seq 27 (sq 6 10) 22 9 0 Shape.str (⟨#[99,111,100,101]⟩:ByteArray) H 0 rfl 0 (by omega) (rfl) ?_
 intro b8 o9 es10 hr11 H
 obtain⟨rfl,hshr11⟩:=hr11
 have H:Hp w S O [(cb,.cells #[.bool true,x1,x2,.pointer none] 38 (0,0))] [] [Fc b8 o9 [.string (⟨#[99,111,100,101]⟩:ByteArray)],Rp (Shape.slice Shape.str) [.slice a3 4 c4] ([(⟨#[99,111,100,101]⟩:ByteArray),digB 1,digB 1,(⟨#[54,49]⟩:ByteArray)]:List ByteArray),Fz cQ] _:=H
 refine qL .seq 28 (sq 7 10) 9 b8 o9 0 (.string (⟨#[99,111,100,101]⟩:ByteArray)) (H.fc 0 rfl) ?_
 refine RW.strAt (κ:=.seq) (d:=some 29) (r:=(sq 8 10)) (T:=9) (s:=(⟨#[99,111,100,101]⟩:ByteArray)) (k:=.i64) (t:=0) 0 (by as_aux_lemma=>kernel_rfl) (by as_aux_lemma=>kernel_rfl) (by omega) (by decide) ?_
 refine qF 2 [(0,.P cb 0),(5,.slice a3 4 c4),(31,.bool false)] ?_
 refine qR 3 [.c [4,0],.c [5]] [(0,.P cb 0),(5,.slice a3 4 c4)] ?_
 have H:=H.pick [1,2] rfl
 refine WK.draw1 10 [(1,.qui),(2,.qui),(3,.qui),(0,.chn),(4,.qui),(5,.qui),(6,.qui),(7,.qui),(8,.qui),(9,.qui)] [(1,.qui),(2,.qui),(3,.qui),(0,.chn),(4,.qui),(5,.qui),(6,.qui),(7,.qui),(8,.qui),(9,.qui)] Tryz_mixed (by as_aux_lemma=>kernel_rfl) (by as_aux_lemma=>kernel_rfl) (by as_aux_lemma=>kernel_rfl) ?_
 have H:=H.draw
 generalize({w1 with drawn:=w1.drawn+1}:World)=w12 at H⊢
 refine qP 1 [(2,.qui),(3,.qui),(0,.chn),(4,.qui),(5,.qui),(6,.qui),(7,.qui),(8,.qui),(9,.qui)] [(0,.P cb 0),(5,.slice a3 4 c4),(34,.slice a3 4 c4)] ?_
 have hx13:0<([(⟨#[99,111,100,101]⟩:ByteArray),digB 1,digB 1,(⟨#[54,49]⟩:ByteArray)]:List ByteArray).length:=by decide
 refine qX .qui 35 [(3,.qui),(0,.chn),(4,.qui),(5,.qui),(6,.qui),(7,.qui),(8,.qui),(9,.qui)] 22 9 0 Shape.str (⟨#[99,111,100,101]⟩:ByteArray) H 0 rfl 0 (by omega) (rfl) ?_
 intro b14 o15 es16 hr17 H
 obtain⟨rfl,hshr17⟩:=hr17
 have H:Hp w S O [(cb,.cells #[.bool true,x1,x2,.pointer none] 38 (0,0))] [] [Fc b14 o15 [.string (⟨#[99,111,100,101]⟩:ByteArray)],Rp (Shape.slice Shape.str) [.slice a3 4 c4] ([(⟨#[99,111,100,101]⟩:ByteArray),digB 1,digB 1,(⟨#[54,49]⟩:ByteArray)]:List ByteArray),Fz cQ] _:=H
 refine qL .qui 36 [(0,.chn),(4,.qui),(5,.qui),(6,.qui),(7,.qui),(8,.qui),(9,.qui)] 9 b14 o15 0 (.string (⟨#[99,111,100,101]⟩:ByteArray)) (H.fc 0 rfl) ?_
 refine qK .chn (some 33) (qs [4,5,6,7,8,9]) 11 #[] (commands_spec (S:=Av S w O (idsOf [(cb,.cells #[.bool true,x1,x2,.pointer none] 38 (0,0))] []))) ?_
 rintro _ w18-⟨b19,rfl,H'⟩
 have H:=H.back (M1:=[]) (W1:=[]) H'
 have H:Hp w S O [(b19,mapO Value.string (fun v:Value=>v) cmdL16 16),(cb,.cells #[.bool true,x1,x2,.pointer none] 38 (0,0))] [] [Fc b14 o15 [.string (⟨#[99,111,100,101]⟩:ByteArray)],Rp (Shape.slice Shape.str) [.slice a3 4 c4] ([(⟨#[99,111,100,101]⟩:ByteArray),digB 1,digB 1,(⟨#[54,49]⟩:ByteArray)]:List ByteArray),Fz cQ] _:=H
 refine RW.mapGet (κ:=.qui) (d:=some 37) (r:=(qs [5,6,7,8,9])) (T:=44) (mk:=Value.string) (vk:=(fun v:Value=>v)) (Kt:=9) (E:=42) (z:=(.nilFunc:Value)) (⟨#[99,111,100,101]⟩:ByteArray) true (by as_aux_lemma=>kernel_rfl) H 0 rfl (KeyOk.str (by as_aux_lemma=>kernel_rfl)) (by as_aux_lemma=>kernel_rfl) (fun w_=>zeroE_run (by as_aux_lemma=>kernel_rfl) w_) ?_
 refine qF 5 [(0,.P cb 0),(5,.slice a3 4 c4),(6,.func (.func 15) #[] #[]),(7,.bool true)] ?_
 refine qR 6 [.c [6,0],.c [7]] [(0,.P cb 0),(5,.slice a3 4 c4),(6,.func (.func 15) #[] #[])] ?_
 have H:=H.dropM 0
 have H:=H.pick [1,2] rfl
 refine qG (sq 0 10) ?_
 refine qP 3 (sq 3 10) [(44,.func (.func 15) #[] #[]),(45,.P cb 0),(46,.slice a3 4 c4)] ?_
 refine RW.slice (κ:=.seq) (d:=some 47) (r:=(sq 4 10)) (T:=22) (e:=9) (sh:=Shape.str) (a:=a3) (len:=4) (cap:=c4) (zs:=([digB 1,digB 1,(⟨#[54,49]⟩:ByteArray)]:List ByteArray)) (lv:=(some (.I 1))) (hv:=none) (by as_aux_lemma=>kernel_rfl) (by as_aux_lemma=>kernel_rfl) H 0 rfl 1 4 (.mk (by omega)) .nil (by decide) (by decide) (rfl) ?_
 intro a20 H
 refine RW.callS (d:=some 48) (r:=(sq 5 10)) (g:=15) (args:=#[.P cb 0,.slice a20 (([digB 1,digB 1,(⟨#[54,49]⟩:ByteArray)]:List ByteArray).length) (c4-1)]) (by as_aux_lemma=>kernel_rfl) (code0 ((H.lend (M1:=[(cb,.cells #[.bool true,x1,x2,.pointer none] 38 (0,0))]) (W1:=[])).pick [0,2] rfl)) ?_
 rintro _ w21⟨rfl,H'⟩
 have H:=H.back (M1:=[(cb,.cells #[.bool true,x1,x2,.pointer none] 38 (0,0))]) (W1:=[]) H'
 have H:Hp w S O [(cb,.cells #[.bool true,x1,x2,.pointer none] 38 (0,0))] [] [Rp (Shape.slice Shape.str) [.slice a20 (([digB 1,digB 1,(⟨#[54,49]⟩:ByteArray)]:List ByteArray).length) (c4-1)] ([digB 1,digB 1,(⟨#[54,49]⟩:ByteArray)]:List ByteArray),Rp (Shape.slice Shape.str) [.slice a3 4 c4] ([(⟨#[99,111,100,101]⟩:ByteArray),digB 1,digB 1,(⟨#[54,49]⟩:ByteArray)]:List ByteArray),Fz cQ] _:=H
 refine qF 5 [(8,.string (⟨#[54,49,10]⟩:ByteArray)),(9,.nilIface)] ?_
 refine qR 1 [.c [7,0],.c [8]] [(8,.string (⟨#[54,49,10]⟩:ByteArray)),(9,.nilIface)] ?_
 have H:=H.pick [2] rfl
 refine qG (sq 0 1) ?_
 refine qB .seq 10 (sq 1 1) #[.I 0] 46 H ?_
 intro b22 w23 H
 refine qF 0 [(8,.string (⟨#[54,49,10]⟩:ByteArray)),(9,.nilIface),(10,.P b22 0)] ?_
 refine qR 2 [.c [8,0,0],.c [8,0,1],.c [9]] [(8,.string (⟨#[54,49,10]⟩:ByteArray)),(9,.nilIface),(10,.P b22 0)] ?_
 refine qG (sq 0 3) ?_
 refine qP 2 (sq 2 3) [(8,.string (⟨#[54,49,10]⟩:ByteArray)),(10,.P b22 0),(51,.nilIface),(52,.iface 52 (.P b22 0))] ?_
 refine qK .seq (some 53) (sq 3 3) 13 #[.nilIface,.iface 52 (.P b22 0)] (as_nil (S:=fun _=>True)) ?_
 rintro _ w24 hE25 rfl
 have H:=H.ext hE25
 refine qF 0 [(8,.string (⟨#[54,49,10]⟩:ByteArray)),(10,.P b22 0),(53,.bool false)] ?_
 refine qR 4 [.c [10]] [(4,.string (⟨#[54,49,10]⟩:ByteArray))] ?_
 refine qT (.string (⟨#[54,49,10]⟩:ByteArray)) Tryz.func7 ?_
 have H:=H.frontM 1 (M':=[(cb,.cells #[.bool true,x1,x2,.pointer none] 38 (0,0)),(b22,.cells #[.I 0] 46 (0,0))]) rfl
 have H:=H.drop (M':=[(cb,.cells #[.bool true,x1,x2,.pointer none] 38 (0,0))]) (W':=[]) (by repeat(first|exact List.Sublist.refl _|exact List.nil_sublist _|apply List.Sublist.cons_cons|apply List.Sublist.cons)) (by repeat(first|exact List.Sublist.refl _|exact List.nil_sublist _|apply List.Sublist.cons_cons|apply List.Sublist.cons))
 exact⟨_,rfl,rfl,H.pick [] rfl⟩
set_option maxHeartbeats 1000000 in
theorem do_no{S:Nat→Prop}{w:World}{O:List Nat}{cb:Nat}{x1 x2:Value}(H0:Hp w S O [(cb,.cells #[.bool true,x1,x2,.pointer none] 38 (0,0))] [] [Fz cQ] w):
 Calls Tryz.prog 7 #[.P cb 0,.string (⟨#[110,111,116,104,105,110,103]⟩:ByteArray)] w (Ret fun v w'=>v=.string (⟨#[101,114,114,111,114,32,50,55,48,10]⟩:ByteArray)∧Hp w S O [(cb,.cells #[.bool true,x1,x2,.pointer none] 38 (0,0))] [] [] w'):=by
 refine qS (fn:=Tryz.f7) (n:=57) (σ:=[(0,.P cb 0),(1,.string (⟨#[110,111,116,104,105,110,103]⟩:ByteArray))]) Tryz.func7 ?_
 have H:=H0
 refine qR 4 [.c [1,0,0],.c [1,0,1],.c [2]] [(0,.P cb 0),(1,.string (⟨#[110,111,116,104,105,110,103]⟩:ByteArray))] ?_
 refine qG (sq 0 9) ?_
 refine qP 6 (sq 6 9) [(0,.P cb 0),(1,.string (⟨#[110,111,116,104,105,110,103]⟩:ByteArray)),(13,.bool false),(16,.P cb 0)] ?_
 refine qL .seq 17 (sq 7 9) 4 cb 0 0 (.bool true) (H.cells 0 rfl) ?_
 refine qF 2 [(0,.P cb 0),(1,.string (⟨#[110,111,116,104,105,110,103]⟩:ByteArray)),(19,.bool false)] ?_
 refine qR 3 [.c [2,0],.c [3]] [(0,.P cb 0),(1,.string (⟨#[110,111,116,104,105,110,103]⟩:ByteArray))] ?_
 refine qG (sq 0 3) ?_
 refine qP 1 (sq 1 3) [(0,.P cb 0),(20,.string (⟨#[110,111,116,104,105,110,103]⟩:ByteArray))] ?_
 refine qK .seq (some 21) (sq 2 3) 10 #[.string (⟨#[110,111,116,104,105,110,103]⟩:ByteArray)] (words_lit (S:=Av S w O (idsOf [(cb,.cells #[.bool true,x1,x2,.pointer none] 38 (0,0))] [])) (s:=(⟨#[110,111,116,104,105,110,103]⟩:ByteArray)) (ws:=[(⟨#[110,111,116,104,105,110,103]⟩:ByteArray)]) (by kernel_rfl) (by decide) (H.fact 0 rfl)) ?_
 rintro v2 w1-H'
 have H:=H.back (M1:=[]) (W1:=[]) H'
 obtain⟨a3,c4,rfl,hc5,hm6⟩:=H.ownForm 0 rfl
 have H:Hp w S O [(cb,.cells #[.bool true,x1,x2,.pointer none] 38 (0,0))] [⟨Shape.str,9,.slice a3 1 c4,([(⟨#[110,111,116,104,105,110,103]⟩:ByteArray)]:List ByteArray)⟩] [Fz cQ] _:=H
 have H:Hp w S O [(cb,.cells #[.bool true,x1,x2,.pointer none] 38 (0,0))] [] [Rp (Shape.slice Shape.str) [.slice a3 1 c4] ([(⟨#[110,111,116,104,105,110,103]⟩:ByteArray)]:List ByteArray),Fz cQ] _:=H.freezeW 0 rfl
 refine qF 1 [(0,.P cb 0),(5,.slice a3 1 c4)] ?_
 refine qR 2 [.c [3,0,0],.c [3,0,1],.c [4]] [(0,.P cb 0),(5,.slice a3 1 c4)] ?_
 refine qG (sq 0 10) ?_
 refine qP 5 (sq 5 10) [(0,.P cb 0),(5,.slice a3 1 c4),(25,.bool false),(26,.slice a3 1 c4)] ?_
 have hx7:0<([(⟨#[110,111,116,104,105,110,103]⟩:ByteArray)]:List ByteArray).length:=by decide
 refine qX .seq 27 (sq 6 10) 22 9 0 Shape.str (⟨#[110,111,116,104,105,110,103]⟩:ByteArray) H 0 rfl 0 (by omega) (rfl) ?_
 intro b8 o9 es10 hr11 H
 obtain⟨rfl,hshr11⟩:=hr11
 have H:Hp w S O [(cb,.cells #[.bool true,x1,x2,.pointer none] 38 (0,0))] [] [Fc b8 o9 [.string (⟨#[110,111,116,104,105,110,103]⟩:ByteArray)],Rp (Shape.slice Shape.str) [.slice a3 1 c4] ([(⟨#[110,111,116,104,105,110,103]⟩:ByteArray)]:List ByteArray),Fz cQ] _:=H
 refine qL .seq 28 (sq 7 10) 9 b8 o9 0 (.string (⟨#[110,111,116,104,105,110,103]⟩:ByteArray)) (H.fc 0 rfl) ?_
 refine RW.strAt (κ:=.seq) (d:=some 29) (r:=(sq 8 10)) (T:=9) (s:=(⟨#[110,111,116,104,105,110,103]⟩:ByteArray)) (k:=.i64) (t:=0) 0 (by as_aux_lemma=>kernel_rfl) (by as_aux_lemma=>kernel_rfl) (by omega) (by decide) ?_
 refine qF 2 [(0,.P cb 0),(5,.slice a3 1 c4),(31,.bool false)] ?_
 refine qR 3 [.c [4,0],.c [5]] [(0,.P cb 0),(5,.slice a3 1 c4)] ?_
 have H:=H.pick [1,2] rfl
 refine WK.draw1 10 [(1,.qui),(2,.qui),(3,.qui),(0,.chn),(4,.qui),(5,.qui),(6,.qui),(7,.qui),(8,.qui),(9,.qui)] [(1,.qui),(2,.qui),(3,.qui),(0,.chn),(4,.qui),(5,.qui),(6,.qui),(7,.qui),(8,.qui),(9,.qui)] Tryz_mixed (by as_aux_lemma=>kernel_rfl) (by as_aux_lemma=>kernel_rfl) (by as_aux_lemma=>kernel_rfl) ?_
 have H:=H.draw
 generalize({w1 with drawn:=w1.drawn+1}:World)=w12 at H⊢
 refine qP 1 [(2,.qui),(3,.qui),(0,.chn),(4,.qui),(5,.qui),(6,.qui),(7,.qui),(8,.qui),(9,.qui)] [(0,.P cb 0),(5,.slice a3 1 c4),(34,.slice a3 1 c4)] ?_
 have hx13:0<([(⟨#[110,111,116,104,105,110,103]⟩:ByteArray)]:List ByteArray).length:=by decide
 refine qX .qui 35 [(3,.qui),(0,.chn),(4,.qui),(5,.qui),(6,.qui),(7,.qui),(8,.qui),(9,.qui)] 22 9 0 Shape.str (⟨#[110,111,116,104,105,110,103]⟩:ByteArray) H 0 rfl 0 (by omega) (rfl) ?_
 intro b14 o15 es16 hr17 H
 obtain⟨rfl,hshr17⟩:=hr17
 have H:Hp w S O [(cb,.cells #[.bool true,x1,x2,.pointer none] 38 (0,0))] [] [Fc b14 o15 [.string (⟨#[110,111,116,104,105,110,103]⟩:ByteArray)],Rp (Shape.slice Shape.str) [.slice a3 1 c4] ([(⟨#[110,111,116,104,105,110,103]⟩:ByteArray)]:List ByteArray),Fz cQ] _:=H
 refine qL .qui 36 [(0,.chn),(4,.qui),(5,.qui),(6,.qui),(7,.qui),(8,.qui),(9,.qui)] 9 b14 o15 0 (.string (⟨#[110,111,116,104,105,110,103]⟩:ByteArray)) (H.fc 0 rfl) ?_
 refine qK .chn (some 33) (qs [4,5,6,7,8,9]) 11 #[] (commands_spec (S:=Av S w O (idsOf [(cb,.cells #[.bool true,x1,x2,.pointer none] 38 (0,0))] []))) ?_
 rintro _ w18-⟨b19,rfl,H'⟩
 have H:=H.back (M1:=[]) (W1:=[]) H'
 have H:Hp w S O [(b19,mapO Value.string (fun v:Value=>v) cmdL16 16),(cb,.cells #[.bool true,x1,x2,.pointer none] 38 (0,0))] [] [Fc b14 o15 [.string (⟨#[110,111,116,104,105,110,103]⟩:ByteArray)],Rp (Shape.slice Shape.str) [.slice a3 1 c4] ([(⟨#[110,111,116,104,105,110,103]⟩:ByteArray)]:List ByteArray),Fz cQ] _:=H
 refine RW.mapGet (κ:=.qui) (d:=some 37) (r:=(qs [5,6,7,8,9])) (T:=44) (mk:=Value.string) (vk:=(fun v:Value=>v)) (Kt:=9) (E:=42) (z:=(.nilFunc:Value)) (⟨#[110,111,116,104,105,110,103]⟩:ByteArray) true (by as_aux_lemma=>kernel_rfl) H 0 rfl (KeyOk.str (by as_aux_lemma=>kernel_rfl)) (by as_aux_lemma=>kernel_rfl) (fun w_=>zeroE_run (by as_aux_lemma=>kernel_rfl) w_) ?_
 refine qF 5 [(0,.P cb 0),(5,.slice a3 1 c4),(6,.nilFunc),(7,.bool false)] ?_
 refine qR 5 [.c [5,0,1,0,0],.c [5,0,1,0,1],.c [6]] [] ?_
 have H:=H.dropM 0
 have H:=H.pick [2] rfl
 refine qG (sq 0 2) ?_
 refine qK .seq (some 42) (sq 1 2) 12 #[.I 270] (error270 (H.fact 0 rfl)) ?_
 rintro _ w20 hE21 rfl
 have H:=H.ext hE21
 refine qF 1 [(4,.string (⟨#[101,114,114,111,114,32,50,55,48,10]⟩:ByteArray))] ?_
 refine qT (.string (⟨#[101,114,114,111,114,32,50,55,48,10]⟩:ByteArray)) Tryz.func7 ?_
 have H:=H.drop (M':=[(cb,.cells #[.bool true,x1,x2,.pointer none] 38 (0,0))]) (W':=[]) (by repeat(first|exact List.Sublist.refl _|exact List.nil_sublist _|apply List.Sublist.cons_cons|apply List.Sublist.cons)) (by repeat(first|exact List.Sublist.refl _|exact List.nil_sublist _|apply List.Sublist.cons_cons|apply List.Sublist.cons))
 exact⟨_,rfl,rfl,H.pick [] rfl⟩
theorem new_spec{S:Nat→Prop}{w:World}  :
 Calls Tryz.prog 6 #[] w (Ret fun v w'=>Ext w w'∧∃b:Nat,v=.P b 0∧Hp w S [] [(b,.cells #[.bool true,.int .u64 1,.slice none 0 0,.pointer none] 38 (0,0))] [] [] w'):=by
 refine qS (fn:=Tryz.f6) (n:=4) (σ:=[]) Tryz.func6 ?_
 have H:=Hp.startF (w:=w) (S:=S) (G:=[]) .nil
 refine qR 3 [.c [1,0],.c [2]] [] ?_
 refine qG (sq 0 4) ?_
 refine qP 2 (sq 2 4) [(2,.agg #[.bool true,.int .u64 1,.slice none 0 0,.pointer none])] ?_
 refine qB .seq 3 (sq 3 4) #[.bool true,.int .u64 1,.slice none 0 0,.pointer none] 38 H ?_
 intro b1 w2 H
 refine qF 1 [(0,.P b1 0)] ?_
 refine qT (.P b1 0) Tryz.func6 ?_
 exact⟨_,rfl,H.done,_,rfl,H.pick [] rfl⟩
set_option maxHeartbeats 1000000 in
theorem heads_spec{S:Nat→Prop}{w:World}(hq:(Fz cQ).p S w):
 Calls Tryz.prog 8 #[] w (Ret fun v w'=>Ext w w'∧v=.bool true):=by
 refine qS (fn:=Tryz.f8) (n:=35) (σ:=[]) Tryz.func8 ?_
 have H:=Hp.startF (w:=w) (S:=S) (G:=[Fz cQ]) (.cons hq .nil)
 refine qR 3 [.c [1,0],.c [2]] [] ?_
 refine qG (sq 0 2) ?_
 refine qK .seq (some 2) (sq 1 2) 6 #[] (new_spec (S:=Av S w [] (idsOf [] []))) ?_
 rintro _ w1-⟨b2,rfl,H'⟩
 have H:=H.back (M1:=[]) (W1:=[]) H'
 have H:Hp w S [] [(b2,.cells #[.bool true,.int .u64 1,.slice none 0 0,.pointer none] 38 (0,0))] [] [Fz cQ] _:=H
 refine qF 1 [(1,.P b2 0)] ?_
 refine qR 1 [.c [2,0],.c [3]] [(1,.P b2 0)] ?_
 refine qG (sq 0 33) ?_
 refine qP 4 (sq 4 33) [(1,.P b2 0),(5,.bool true),(6,.P b2 0)] ?_
 refine RW.callS (d:=some 7) (r:=(sq 5 33)) (g:=7) (args:=#[.P b2 0,.string (⟨#[109,101,109,98,101,114,32,49,32,53]⟩:ByteArray)]) (by as_aux_lemma=>kernel_rfl) (do_member ((H.lend (M1:=[(b2,.cells #[.bool true,.int .u64 1,.slice none 0 0,.pointer none] 38 (0,0))]) (W1:=[])).pick [0] rfl)) ?_
 rintro _ w3⟨a4,c5,rfl,H'⟩
 have H:=H.back (M1:=[(b2,.cells #[.bool true,.int .u64 1,.slice none 0 0,.pointer none] 38 (0,0))]) (W1:=[]) H'
 have H:Hp w S [] [(b2,.cells #[.bool true,.int .u64 2,.slice a4 1 c5,.pointer none] 38 (0,0))] [] [Rp (Shape.slice memS) [.slice a4 1 c5] ([(⟨1,5⟩:Mem)]:List Mem),Fz cQ] _:=H
 refine qP 3 (sq 8 33) [(1,.P b2 0),(10,.bool ((⟨#[111,107,10]⟩:ByteArray).toList==(⟨#[111,107,10]⟩:ByteArray).toList))] ?_
 refine tE (fun b_=>[(1,.P b2 0),(10,.bool b_)]) ((⟨#[111,107,10]⟩:ByteArray).toList) ((⟨#[111,107,10]⟩:ByteArray).toList) (fun h6=>?_) (fun h6=>?_)
 ·
  refine qP 1 (sq 9 33) [(1,.P b2 0),(10,.bool true),(11,.P b2 0)] ?_
  refine RW.callS (d:=some 12) (r:=(sq 10 33)) (g:=7) (args:=#[.P b2 0,.string (⟨#[109,97,112]⟩:ByteArray)]) (by as_aux_lemma=>kernel_rfl) (do_map ((H.lend (M1:=[(b2,.cells #[.bool true,.int .u64 2,.slice a4 1 c5,.pointer none] 38 (0,0))]) (W1:=[])).pick [1,0] rfl)) ?_
  rintro _ w7⟨rfl,H'⟩
  have H:=H.back (M1:=[(b2,.cells #[.bool true,.int .u64 2,.slice a4 1 c5,.pointer none] 38 (0,0))]) (W1:=[]) H'
  have H:Hp w S [] [(b2,.cells #[.bool true,.int .u64 2,.slice a4 1 c5,.pointer none] 38 (0,0))] [] [Rp (Shape.slice memS) [.slice a4 1 c5] ([(⟨1,5⟩:Mem)]:List Mem),Rp (Shape.slice memS) [.slice a4 1 c5] ([(⟨1,5⟩:Mem)]:List Mem),Fz cQ] _:=H
  refine qP 3 (sq 13 33) [(1,.P b2 0),(15,.bool ((⟨#[101,112,111,99,104,32,50,32,49,58,53,10]⟩:ByteArray).toList==(⟨#[101,112,111,99,104,32,50,32,49,58,53,10]⟩:ByteArray).toList))] ?_
  refine tE (fun b_=>[(1,.P b2 0),(15,.bool b_)]) ((⟨#[101,112,111,99,104,32,50,32,49,58,53,10]⟩:ByteArray).toList) ((⟨#[101,112,111,99,104,32,50,32,49,58,53,10]⟩:ByteArray).toList) (fun h8=>?_) (fun h8=>?_)
  ·
   refine qP 1 (sq 14 33) [(1,.P b2 0),(15,.bool true),(16,.P b2 0)] ?_
   refine RW.callS (d:=some 17) (r:=(sq 15 33)) (g:=7) (args:=#[.P b2 0,.string (⟨#[112,108,97,99,101,32,48,32,49]⟩:ByteArray)]) (by as_aux_lemma=>kernel_rfl) (do_place ((H.lend (M1:=[(b2,.cells #[.bool true,.int .u64 2,.slice a4 1 c5,.pointer none] 38 (0,0))]) (W1:=[])).pick [2,0] rfl)) ?_
   rintro _ w9⟨rfl,H'⟩
   have H:=H.back (M1:=[(b2,.cells #[.bool true,.int .u64 2,.slice a4 1 c5,.pointer none] 38 (0,0))]) (W1:=[]) H'
   have H:Hp w S [] [(b2,.cells #[.bool true,.int .u64 2,.slice a4 1 c5,.pointer none] 38 (0,0))] [] [Rp (Shape.slice memS) [.slice a4 1 c5] ([(⟨1,5⟩:Mem)]:List Mem),Rp (Shape.slice memS) [.slice a4 1 c5] ([(⟨1,5⟩:Mem)]:List Mem),Rp (Shape.slice memS) [.slice a4 1 c5] ([(⟨1,5⟩:Mem)]:List Mem),Fz cQ] _:=H
   refine qP 3 (sq 18 33) [(1,.P b2 0),(20,.bool ((⟨#[49,10]⟩:ByteArray).toList==(⟨#[49,10]⟩:ByteArray).toList))] ?_
   refine tE (fun b_=>[(1,.P b2 0),(20,.bool b_)]) ((⟨#[49,10]⟩:ByteArray).toList) ((⟨#[49,10]⟩:ByteArray).toList) (fun h10=>?_) (fun h10=>?_)
   ·
    refine qP 1 (sq 19 33) [(1,.P b2 0),(20,.bool true),(21,.P b2 0)] ?_
    refine RW.callS (d:=some 22) (r:=(sq 20 33)) (g:=7) (args:=#[.P b2 0,.string (⟨#[108,105,115,116]⟩:ByteArray)]) (by as_aux_lemma=>kernel_rfl) (do_list ((H.lend (M1:=[(b2,.cells #[.bool true,.int .u64 2,.slice a4 1 c5,.pointer none] 38 (0,0))]) (W1:=[])).pick [3] rfl)) ?_
    rintro _ w11⟨rfl,H'⟩
    have H:=H.back (M1:=[(b2,.cells #[.bool true,.int .u64 2,.slice a4 1 c5,.pointer none] 38 (0,0))]) (W1:=[]) H'
    have H:Hp w S [] [(b2,.cells #[.bool true,.int .u64 2,.slice a4 1 c5,.pointer none] 38 (0,0))] [] [Rp (Shape.slice memS) [.slice a4 1 c5] ([(⟨1,5⟩:Mem)]:List Mem),Rp (Shape.slice memS) [.slice a4 1 c5] ([(⟨1,5⟩:Mem)]:List Mem),Rp (Shape.slice memS) [.slice a4 1 c5] ([(⟨1,5⟩:Mem)]:List Mem),Fz cQ] _:=H
    refine qP 3 (sq 23 33) [(1,.P b2 0),(25,.bool ((⟨#[101,114,114,111,114,32,49,53,49,10]⟩:ByteArray).toList==(⟨#[101,114,114,111,114,32,49,53,49,10]⟩:ByteArray).toList))] ?_
    refine tE (fun b_=>[(1,.P b2 0),(25,.bool b_)]) ((⟨#[101,114,114,111,114,32,49,53,49,10]⟩:ByteArray).toList) ((⟨#[101,114,114,111,114,32,49,53,49,10]⟩:ByteArray).toList) (fun h12=>?_) (fun h12=>?_)
    ·
     refine qP 1 (sq 24 33) [(1,.P b2 0),(25,.bool true),(26,.P b2 0)] ?_
     refine RW.callS (d:=some 27) (r:=(sq 25 33)) (g:=7) (args:=#[.P b2 0,.string (⟨#[99,111,100,101,32,49,32,49,32,54,49]⟩:ByteArray)]) (by as_aux_lemma=>kernel_rfl) (do_code ((H.lend (M1:=[(b2,.cells #[.bool true,.int .u64 2,.slice a4 1 c5,.pointer none] 38 (0,0))]) (W1:=[])).pick [3] rfl)) ?_
     rintro _ w13⟨rfl,H'⟩
     have H:=H.back (M1:=[(b2,.cells #[.bool true,.int .u64 2,.slice a4 1 c5,.pointer none] 38 (0,0))]) (W1:=[]) H'
     have H:Hp w S [] [(b2,.cells #[.bool true,.int .u64 2,.slice a4 1 c5,.pointer none] 38 (0,0))] [] [Rp (Shape.slice memS) [.slice a4 1 c5] ([(⟨1,5⟩:Mem)]:List Mem),Rp (Shape.slice memS) [.slice a4 1 c5] ([(⟨1,5⟩:Mem)]:List Mem),Rp (Shape.slice memS) [.slice a4 1 c5] ([(⟨1,5⟩:Mem)]:List Mem),Fz cQ] _:=H
     refine qP 3 (sq 28 33) [(1,.P b2 0),(30,.bool ((⟨#[54,49,10]⟩:ByteArray).toList==(⟨#[54,49,10]⟩:ByteArray).toList))] ?_
     refine tE (fun b_=>[(1,.P b2 0),(30,.bool b_)]) ((⟨#[54,49,10]⟩:ByteArray).toList) ((⟨#[54,49,10]⟩:ByteArray).toList) (fun h14=>?_) (fun h14=>?_)
     ·
      refine qP 1 (sq 29 33) [(30,.bool true),(31,.P b2 0)] ?_
      refine RW.callS (d:=some 32) (r:=(sq 30 33)) (g:=7) (args:=#[.P b2 0,.string (⟨#[110,111,116,104,105,110,103]⟩:ByteArray)]) (by as_aux_lemma=>kernel_rfl) (do_no ((H.lend (M1:=[(b2,.cells #[.bool true,.int .u64 2,.slice a4 1 c5,.pointer none] 38 (0,0))]) (W1:=[])).pick [3] rfl)) ?_
      rintro _ w15⟨rfl,H'⟩
      have H:=H.back (M1:=[(b2,.cells #[.bool true,.int .u64 2,.slice a4 1 c5,.pointer none] 38 (0,0))]) (W1:=[]) H'
      have H:Hp w S [] [(b2,.cells #[.bool true,.int .u64 2,.slice a4 1 c5,.pointer none] 38 (0,0))] [] [Rp (Shape.slice memS) [.slice a4 1 c5] ([(⟨1,5⟩:Mem)]:List Mem),Rp (Shape.slice memS) [.slice a4 1 c5] ([(⟨1,5⟩:Mem)]:List Mem),Rp (Shape.slice memS) [.slice a4 1 c5] ([(⟨1,5⟩:Mem)]:List Mem),Fz cQ] _:=H
      refine qF 3 [(0,.bool ((⟨#[101,114,114,111,114,32,50,55,48,10]⟩:ByteArray).toList==(⟨#[101,114,114,111,114,32,50,55,48,10]⟩:ByteArray).toList))] ?_
      refine qT (.bool ((⟨#[101,114,114,111,114,32,50,55,48,10]⟩:ByteArray).toList==(⟨#[101,114,114,111,114,32,50,55,48,10]⟩:ByteArray).toList)) Tryz.func8 ?_
      exact⟨_,rfl,H.done,congrArg Value.bool (beq_self_eq_true _)⟩
     ·
      exact absurd rfl h14
    ·
     exact absurd rfl h12
   ·
    exact absurd rfl h10
  ·
   exact absurd rfl h8
 ·
  exact absurd rfl h6
end Go.Proofs.YtcafjhnjhhicdaaGreatDoor
