import Derived.Test.YtcafjhnjhhicdaaGreatDoorSG2
namespace Go.Proofs.YtcafjhnjhhicdaaGreatDoor
open Go.BX
theorem between_spec{S:Nat→Prop}{w:World}(x l h:Int):
 Calls Tryz.prog 104 #[.I x,.I l,.I h] w (Ret fun v w'=>Ext w w'∧v=.bool (decide (l≤x∧x≤h))):=by
 refine qS (fn:=Tryz.f104) (n:=15) (σ:=[(0,.I x),(1,.I l),(2,.I h)]) Tryz.func104 ?_
 have H:=Hp.startF (w:=w) (S:=S) (G:=[]) .nil
 refine qR 3 [.c [1,0],.c [2]] [(0,.I x),(1,.I l),(2,.I h)] ?_
 refine qG (sq 0 9) ?_
 refine qP 4 (sq 4 9) [(0,.I x),(2,.I h),(10,.bool (decide ((x:Int)≥l)))] ?_
 refine tD (fun b_=>[(0,.I x),(2,.I h),(10,.bool b_)]) ((x:Int)≥l) (fun h1=>?_) (fun h1=>?_)
 ·
  refine qF 5 [(6,.bool (decide ((x:Int)≤h)))] ?_
  refine qT (.bool (decide ((x:Int)≤h))) Tryz.func104 ?_
  refine⟨_,rfl,H.done,?_⟩
  congr 1
  exact decide_eq_decide.2 (by omega)
 ·
  refine qF 5 [(6,.bool false)] ?_
  refine qT (.bool false) Tryz.func104 ?_
  refine⟨_,rfl,H.done,?_⟩
  congr 1
  exact(decide_eq_false (by omega)).symm
def lenOf(size k:Nat):Nat:=(size+k-1)/k
theorem lenOf_int{size k:Nat}(_hs:0<k):((size:Int)+(k:Int)-1)/(k:Int)=((lenOf size k:Nat):Int):=by
 unfold lenOf
 rw[Int.natCast_ediv]
 congr 1
 omega
theorem lenOf_le{size k:Nat}(hk:0<k):lenOf size k≤size:=by
 unfold lenOf
 rcases Nat.eq_zero_or_pos size with rfl|h
 ·rw[Nat.div_eq_of_lt (by omega)];exact Nat.le_refl _
 · rw[Nat.div_le_iff_le_mul_add_pred hk]
   have :1*size≤k*size:=Nat.mul_le_mul_right _ hk
   omega
theorem lenOf_mul{size k:Nat}(hk:0<k):size≤k*lenOf size k:=by
 unfold lenOf
 have h1:=Nat.div_add_mod (size+k-1) k
 have h2:=Nat.mod_lt (size+k-1) hk
 omega
theorem length_ok{S:Nat→Prop}{w:World}(size k:Nat)(hs:size≤65536)(hk:1≤k)(hk2:k≤255):
 Calls Tryz.prog 103 #[.I size,.I k] w (Ret fun v w'=>Ext w w'∧v=.tuple #[.I ((lenOf size k:Nat):Int),.I 0]):=by
 refine qS (fn:=Tryz.f103) (n:=20) (σ:=[(0,.I size),(1,.I k)]) Tryz.func103 ?_
 have H:=Hp.startF (w:=w) (S:=S) (G:=[]) .nil
 refine qR 4 [.c [1,0,0],.c [1,0,1],.c [2]] [(0,.I size),(1,.I k)] ?_
 refine qG (sq 0 8) ?_
 refine qP 1 (sq 1 8) [(0,.I size),(1,.I k),(6,.I size)] ?_
 refine qK .seq (some 7) (sq 2 8) 104 #[.I size,.I 0,.I 65536] (between_spec (S:=fun _=>True) (size:Int) 0 65536) ?_
 rintro _ w1 hE2 rfl
 have H:=H.ext hE2
 refine qP 2 (sq 4 8) [(0,.I size),(1,.I k),(9,.bool (!(decide (0≤(size:Int)∧(size:Int)≤65536))))] ?_
 refine RW.test (fun b_=>[(0,.I size),(1,.I k),(9,.bool b_)]) (!(decide (0≤(size:Int)∧(size:Int)≤65536))) (fun h3=>?_) (fun h3=>?_)
 ·
  replace h3:(decide (0≤(size:Int)∧(size:Int)≤65536))=false:=by revert h3;cases(decide (0≤(size:Int)∧(size:Int)≤65536))<;>simp
  replace h3:=of_decide_eq_false h3
  exact absurd (by omega) h3
 ·
  replace h3:(decide (0≤(size:Int)∧(size:Int)≤65536))=true:=by revert h3;cases(decide (0≤(size:Int)∧(size:Int)≤65536))<;>simp
  replace h3:=of_decide_eq_true h3
  refine qP 1 (sq 5 8) [(0,.I size),(1,.I k),(9,.bool false),(10,.I k)] ?_
  refine qK .seq (some 11) (sq 6 8) 104 #[.I k,.I 1,.I 255] (between_spec (S:=fun _=>True) (k:Int) 1 255) ?_
  rintro _ w4 hE5 rfl
  have H:=H.ext hE5
  refine qF 2 [(0,.I size),(1,.I k),(13,.bool (!(decide (1≤(k:Int)∧(k:Int)≤255))))] ?_
  refine qC (!(decide (1≤(k:Int)∧(k:Int)≤255))) (fun h6=>?_) (fun h6=>?_)
  ·
   replace h6:(decide (1≤(k:Int)∧(k:Int)≤255))=false:=by revert h6;cases(decide (1≤(k:Int)∧(k:Int)≤255))<;>simp
   replace h6:=of_decide_eq_false h6
   exact absurd (by omega) h6
  ·
   replace h6:(decide (1≤(k:Int)∧(k:Int)≤255))=true:=by revert h6;cases(decide (1≤(k:Int)∧(k:Int)≤255))<;>simp
   replace h6:=of_decide_eq_true h6
   refine qR 2 [.c [2,0],.c [3]] [(0,.I size),(1,.I k)] ?_
   refine qG (sq 0 8) ?_
   refine qP 2 (sq 2 8) [(1,.I k),(14,.I size),(15,.I k)] ?_
   refine qI .seq 16 (sq 3 8) ((size:Int)+(k:Int)) ?_
   refine qI .seq 17 (sq 4 8) (((size:Int)+(k:Int))-1) ?_
   refine qP 1 (sq 5 8) [(17,.I (((size:Int)+(k:Int))-1)),(18,.I k)] ?_
   refine RW.readS (κ:=.seq) (d:=some 19) (r:=(sq 6 8)) (s:=semV (Op.intDiv .quo .i64 (((size:Int)+(k:Int))-1) (k:Int))) (v:=.I ((((size:Int)+(k:Int))-1)/(k:Int))) (by as_aux_lemma=>kernel_rfl) (fun w' _=>semV_run (quo_run_i64 (by omega) (by omega))) ?_
   refine qF 2 [(4,.I ((((size:Int)+(k:Int))-1)/(k:Int))),(5,.I 0)] ?_
   refine qT (.tuple #[.I ((((size:Int)+(k:Int))-1)/(k:Int)),.I 0]) Tryz.func103 ?_
   refine⟨_,rfl,H.done,?_⟩
   rw[lenOf_int (by omega)]
theorem sizes_ok{S:Nat→Prop}{w:World}(size k n:Nat)(hs:size≤65536)(hk:1≤k)(hkn:k≤n)(hn:n≤255):
 Calls Tryz.prog 69 #[.I size,.I k,.I n] w (Ret fun v w'=>Ext w w'∧v=.tuple #[.I ((lenOf size k:Nat):Int),.I 0]):=by
 refine qS (fn:=Tryz.f69) (n:=26) (σ:=[(0,.I size),(1,.I k),(2,.I n)]) Tryz.func69 ?_
 have H:=Hp.startF (w:=w) (S:=S) (G:=[]) .nil
 refine qR 3 [.c [1,0],.c [2]] [(0,.I size),(1,.I k),(2,.I n)] ?_
 refine qG (sq 0 8) ?_
 refine qP 2 (sq 2 8) [(1,.I k),(2,.I n),(11,.I size),(12,.I k)] ?_
 refine qK .seq (some 13) (sq 3 8) 103 #[.I size,.I k] (length_ok (S:=fun _=>True) size k (by omega) (by omega) (by omega)) ?_
 rintro _ w1 hE2 rfl
 have H:=H.ext hE2
 refine qF 5 [(1,.I k),(2,.I n),(8,.I ((lenOf size k:Nat):Int)),(9,.I 0)] ?_
 refine qR 2 [.c [2,0,0],.c [2,0,1],.c [3]] [(1,.I k),(2,.I n),(8,.I ((lenOf size k:Nat):Int)),(9,.I 0)] ?_
 refine qG (sq 0 8) ?_
 refine qP 5 (sq 5 8) [(8,.I ((lenOf size k:Nat):Int)),(9,.I 0),(18,.bool true),(19,.I n),(20,.I k)] ?_
 refine qK .seq (some 21) (sq 6 8) 104 #[.I n,.I k,.I 255] (between_spec (S:=fun _=>True) (n:Int) (k:Int) 255) ?_
 rintro _ w3 hE4 rfl
 have H:=H.ext hE4
 refine qF 2 [(8,.I ((lenOf size k:Nat):Int)),(9,.I 0),(23,.bool (!(decide ((k:Int)≤(n:Int)∧(n:Int)≤255))))] ?_
 refine qC (!(decide ((k:Int)≤(n:Int)∧(n:Int)≤255))) (fun h5=>?_) (fun h5=>?_)
 ·
  replace h5:(decide ((k:Int)≤(n:Int)∧(n:Int)≤255))=false:=by revert h5;cases(decide ((k:Int)≤(n:Int)∧(n:Int)≤255))<;>simp
  replace h5:=of_decide_eq_false h5
  exact absurd (by omega) h5
 ·
  replace h5:(decide ((k:Int)≤(n:Int)∧(n:Int)≤255))=true:=by revert h5;cases(decide ((k:Int)≤(n:Int)∧(n:Int)≤255))<;>simp
  replace h5:=of_decide_eq_true h5
  refine qR 3 [.c [4]] [(6,.I ((lenOf size k:Nat):Int)),(7,.I 0)] ?_
  refine qT (.tuple #[.I ((lenOf size k:Nat):Int),.I 0]) Tryz.func69 ?_
  exact⟨_,rfl,H.done,rfl⟩
def mixAll:List (BitVec 8)→List (List (BitVec 8))→List (BitVec 8)→List (BitVec 8)
 |c::r,d::ds,acc=>mixAll r ds (mixL acc d c)
 |_,_,acc=>acc
theorem mixAll_nil(ds:List (List (BitVec 8)))(acc:List (BitVec 8)):mixAll [] ds acc=acc:=by
 cases ds<;>rfl
theorem mixAll_step{row:List (BitVec 8)}{ds:List (List (BitVec 8))}{acc:List (BitVec 8)}{j:Nat}(h1:j<row.length)(h2:j<ds.length):mixAll (row.drop j) (ds.drop j) acc=mixAll (row.drop (j+1)) (ds.drop (j+1)) (mixL acc ds[j] row[j]):=by
 rw[List.drop_eq_getElem_cons h1,List.drop_eq_getElem_cons h2];rfl
theorem mixAll_len:∀{row:List (BitVec 8)}{ds:List (List (BitVec 8))}{acc:List (BitVec 8)}{l:Nat},acc.length=l→(∀d∈ds,d.length=l)→(mixAll row ds acc).length=l
 |[],ds,acc,l,h,_=>by rw[mixAll_nil];exact h
 |c::r,[],acc,l,h,_=>h
 |c::r,d::ds,acc,l,h,hd=>by
  have h1:=hd d (by simp)
  exact mixAll_len (row:=r) (ds:=ds) (by rw[mixL_len (by omega)];exact h) fun x hx=>hd x (by simp[hx])
theorem mixed_spec{S:Nat→Prop}{w:World}{row:List (BitVec 8)}{ds:List (List (BitVec 8))}{a ad:Option Addr}{ka kd:Nat}(l:Nat)(h1:SB.rep S w [.slice a row.length ka] row)(h2:(Shape.slice SB).rep S w [.slice ad ds.length kd] ds)(hle:row.length≤ds.length)(hd:∀d∈ds,d.length=l)(hl:l≤1099511627776):
 Calls Tryz.prog 71 #[.slice a row.length ka,.slice ad ds.length kd,.I l] w (Ret fun v w'=>Ext w w'∧Hp w S [] [] [⟨Sb,5,v,mixAll row ds (List.replicate l 0#8)⟩] [] w'):=by
 have hlr:=Shape.slice_len h1
 refine qS (fn:=Tryz.f71) (n:=33) (σ:=[(0,.slice a row.length ka),(1,.slice ad ds.length kd),(2,.I l)]) Tryz.func71 ?_
 have H:=Hp.startF (w:=w) (S:=S) (G:=[Rp SB [.slice a row.length ka] row,Rp (Shape.slice SB) [.slice ad ds.length kd] ds]) (.rp h1 (.rp h2 .nil))
 refine qR 3 [.c [1,0],.c [2]] [(0,.slice a row.length ka),(1,.slice ad ds.length kd),(2,.I l)] ?_
 refine qG (sq 0 3) ?_
 refine qP 1 (sq 1 3) [(0,.slice a row.length ka),(1,.slice ad ds.length kd),(10,.I l)] ?_
 refine RW.makeW Sb (κ:=.seq) (d:=some 11) (r:=(sq 2 3)) (T:=28) (e:=5) (by_:=1) (v0:=.int .u8 0) (0#8:BitVec 8) (kl:=.i64) (kc:=.i64) (lv:=(l:Int)) (cv:=(l:Int)) (by as_aux_lemma=>kernel_rfl) (nofun) (by as_aux_lemma=>kernel_rfl) rfl H l l (by omega) (by omega) (by omega) (by omega) (by omega) (fun _ _=>rfl) ?_
 intro b1 w2 H
 have H:Hp w S [] [] [⟨Sb,5,.slice (some ⟨b1,0,none⟩) l l,(List.replicate l (0#8:BitVec 8))⟩] [Rp SB [.slice a row.length ka] row,Rp (Shape.slice SB) [.slice ad ds.length kd] ds] _:=H
 refine qF 1 [(0,.slice a row.length ka),(1,.slice ad ds.length kd),(7,.slice (some ⟨b1,0,none⟩) l l)] ?_
 refine qR 4 [.c [2,0,1,0],.b 0,.c [3]] [(1,.slice ad ds.length kd),(7,.slice (some ⟨b1,0,none⟩) l l),(12,.slice a row.length ka),(13,.I ((row.length:Nat):Int)),(14,.I 0)] ?_
 have H:=H.reW (v':=.slice (some ⟨b1,0,none⟩) (List.replicate l 0#8).length l) rfl (by rw[List.length_replicate])
 refine WK.loop (α:=Nat×List (BitVec 8)×Option Addr×Nat) (b:=cd Tryz.prog 71 [2,0,1,0,0]) (by as_aux_lemma=>kernel_rfl) (fun st_=>match st_ with|(j,acc,a9,k9)=>[(1,.slice ad ds.length kd),(7,.slice a9 acc.length k9),(12,.slice a row.length ka),(13,.I ((row.length:Nat):Int)),(14,.I j)]) (fun st_ w'=>match st_ with|(j,acc,a9,k9)=>Hp w S [] [] [⟨Sb,5,.slice a9 acc.length k9,acc⟩] [Rp SB [.slice a row.length ka] row,Rp (Shape.slice SB) [.slice ad ds.length kd] ds] w'∧j≤row.length∧acc.length=l∧mixAll (row.drop j) (ds.drop j) acc=mixAll row ds (List.replicate l 0#8)) (fun st_=>match st_ with|(j,acc,a9,k9)=>row.length-j) (0,List.replicate l 0#8,(some ⟨b1,0,none⟩),l) ⟨H,Nat.zero_le _,List.length_replicate,rfl⟩ (by simp) ?_
 rintro⟨j,acc,a9,k9⟩w4⟨H,hinv0⟩hback3
 refine qR 3 [.c [2,0,1,0,0,1,0],.c [2,0,1,0,0,2],.l [2,0,1,0,0],.b 0,.c [3]] [(1,.slice ad ds.length kd),(7,.slice a9 acc.length k9),(12,.slice a row.length ka),(13,.I ((row.length:Nat):Int)),(14,.I j),(15,.bool (decide (((j:Int):Int)<((row.length:Nat):Int))))] ?_
 refine qD (((j:Int):Int)<((row.length:Nat):Int)) (fun h5=>?_) (fun h5=>?_)
 ·
  refine qR 4 [.c [2,0,1,0,0,2,0,0,0],.c [2,0,1,0,0,2,0,0,1],.b 1,.c [2,0,1,0,0,3],.l [2,0,1,0,0],.b 0,.c [3]] [(1,.slice ad ds.length kd),(7,.slice a9 acc.length k9),(12,.slice a row.length ka),(13,.I ((row.length:Nat):Int)),(14,.I j)] ?_
  refine qG (sq 0 5) ?_
  refine qP 1 (sq 1 5) [(1,.slice ad ds.length kd),(7,.slice a9 acc.length k9),(12,.slice a row.length ka),(13,.I ((row.length:Nat):Int)),(14,.I j),(16,.I j)] ?_
  have hx6:j<row.length:=by omega
  refine qX .seq 17 (sq 2 5) 28 5 (j:Int) Sb (row[j]) H 0 rfl j (by omega) (List.getElem?_eq_getElem hx6) ?_
  intro b7 o8 es9 hr10 H
  obtain rfl:=hr10
  refine qL .seq 18 (sq 3 5) 5 b7 o8 0 (.int .u8 (((row[j]).toNat:Nat):Int)) (H.fc 0 rfl) ?_
  refine qF 2 [(1,.slice ad ds.length kd),(7,.slice a9 acc.length k9),(8,.I j),(9,.int .u8 (((row[j]).toNat:Nat):Int)),(12,.slice a row.length ka),(13,.I ((row.length:Nat):Int)),(14,.I j)] ?_
  refine qR 2 [.c [2,0,1,0,0,2,0,0,2],.b 1,.c [2,0,1,0,0,3],.l [2,0,1,0,0],.b 0,.c [3]] [(1,.slice ad ds.length kd),(7,.slice a9 acc.length k9),(8,.I j),(9,.int .u8 (((row[j]).toNat:Nat):Int)),(12,.slice a row.length ka),(13,.I ((row.length:Nat):Int)),(14,.I j),(20,.bool ((((row[j]).toNat:Nat):Int)!=0))] ?_
  refine qN (((row[j]).toNat:Nat):Int) 0 (fun h11=>?_) (fun h11=>?_)
  ·
   have hd9:=hd (ds[j]) (List.getElem_mem _)
   have ha9:=hinv0.2.1
   refine qG (sq 0 11) ?_
   refine qP 3 (sq 3 11) [(1,.slice ad ds.length kd),(7,.slice a9 acc.length k9),(9,.int .u8 (((row[j]).toNat:Nat):Int)),(12,.slice a row.length ka),(13,.I ((row.length:Nat):Int)),(14,.I j),(22,.slice a9 acc.length k9),(23,.slice ad ds.length kd),(24,.I j)] ?_
   have hx12:j<ds.length:=by omega
   refine qX .seq 25 (sq 4 11) 74 28 (j:Int) SB (ds[j]) H 2 rfl j (by omega) (List.getElem?_eq_getElem hx12) ?_
   intro b13 o14 es15 hr16 H
   obtain⟨a17,k18,rfl⟩:=Shape.slice_form' hr16
   have H:=H.add (F:=Rp SB [.slice a17 (ds[j]).length k18] (ds[j])) hr16
   refine qL .seq 26 (sq 5 11) 28 b13 o14 0 (.slice a17 (ds[j]).length k18) (H.fc 1 rfl) ?_
   refine qP 1 (sq 6 11) [(1,.slice ad ds.length kd),(7,.slice a9 acc.length k9),(12,.slice a row.length ka),(13,.I ((row.length:Nat):Int)),(14,.I j),(22,.slice a9 acc.length k9),(26,.slice a17 (ds[j]).length k18),(27,.int .u8 (((row[j]).toNat:Nat):Int))] ?_
   have H:Hp w S [] [] [] [Rp SB [.slice a9 acc.length k9] acc,Rp SB [.slice a17 (ds[j]).length k18] (ds[j]),Fc b13 o14 [.slice a17 (ds[j]).length k18],Fc b7 o8 [.int .u8 (((row[j]).toNat:Nat):Int)],Rp SB [.slice a row.length ka] row,Rp (Shape.slice SB) [.slice ad ds.length kd] ds] _:=H.freezeW 0 rfl
   refine qK .seq (some 28) (sq 7 11) 108 #[.slice a9 acc.length k9,.slice a17 (ds[j]).length k18,.int .u8 (((row[j]).toNat:Nat):Int)] (mix_spec (xs:=acc) (ys:=ds[j]) (row[j]) (H.rp 0 rfl) (H.rp 1 rfl) (by first|omega|assumption) (by omega)) ?_
   rintro _ w19-⟨a20,k21,rfl,H'⟩
   have H:=H.back (M1:=[]) (W1:=[]) H'
   have H:Hp w S [] [] [⟨Sb,5,.slice a20 ((mixL acc (ds[j]) (row[j])).length) k21,mixL acc (ds[j]) (row[j])⟩] [Rp SB [.slice a9 acc.length k9] acc,Rp SB [.slice a17 (ds[j]).length k18] (ds[j]),Fc b13 o14 [.slice a17 (ds[j]).length k18],Fc b7 o8 [.int .u8 (((row[j]).toNat:Nat):Int)],Rp SB [.slice a row.length ka] row,Rp (Shape.slice SB) [.slice ad ds.length kd] ds] _:=H
   refine qF 4 [(1,.slice ad ds.length kd),(7,.slice a20 ((mixL acc (ds[j]) (row[j])).length) k21),(12,.slice a row.length ka),(13,.I ((row.length:Nat):Int)),(14,.I j)] ?_
   refine qR 1 [.c [2,0,1,0,0,3],.l [2,0,1,0,0],.b 0,.c [3]] [(1,.slice ad ds.length kd),(7,.slice a20 ((mixL acc (ds[j]) (row[j])).length) k21),(12,.slice a row.length ka),(13,.I ((row.length:Nat):Int)),(14,.I j)] ?_
   refine qG (sq 0 2) ?_
   refine qI .seq 31 (sq 1 2) ((j:Int)+1) ?_
   refine qF 1 [(1,.slice ad ds.length kd),(7,.slice a20 ((mixL acc (ds[j]) (row[j])).length) k21),(12,.slice a row.length ka),(13,.I ((row.length:Nat):Int)),(14,.I ((j:Int)+1))] ?_
   have H:=H.pick [4,5] rfl
   exact WK.back (hback3 (j+1,mixL acc (ds[j]) (row[j]),a20,k21) _ ⟨H,by omega,by first|exact hinv0.2.1|(rw[mixL_len (by omega)];exact hinv0.2.1),by rw[←hinv0.2.2,mixAll_step (j:=j) (by omega) (by omega)]<;>first|rfl|rw[hz9]⟩ (by first|omega|(simp only[];omega))) (by first|rfl|simp)
  ·
   have hz9:mixL acc (ds[j]) (row[j])=acc:=by
    have hq9:row[j]=0#8:=BitVec.eq_of_toNat_eq (by have hq8:(0#8).toNat=0:=rfl;omega)
    rw[hq9];exact mixL_zero (by rw[hinv0.2.1,hd (ds[j]) (List.getElem_mem _)])
   refine qR 2 [.c [2,0,1,0,0,3],.l [2,0,1,0,0],.b 0,.c [3]] [(1,.slice ad ds.length kd),(7,.slice a9 acc.length k9),(12,.slice a row.length ka),(13,.I ((row.length:Nat):Int)),(14,.I j)] ?_
   refine qG (sq 0 2) ?_
   refine qI .seq 31 (sq 1 2) ((j:Int)+1) ?_
   refine qF 1 [(1,.slice ad ds.length kd),(7,.slice a9 acc.length k9),(12,.slice a row.length ka),(13,.I ((row.length:Nat):Int)),(14,.I ((j:Int)+1))] ?_
   have H:=H.pick [1,2] rfl
   exact WK.back (hback3 (j+1,acc,a9,k9) _ ⟨H,by omega,by first|exact hinv0.2.1|(rw[mixL_len (by omega)];exact hinv0.2.1),by rw[←hinv0.2.2,mixAll_step (j:=j) (by omega) (by omega)]<;>first|rfl|rw[hz9]⟩ (by first|omega|(simp only[];omega))) (by first|rfl|simp)
 ·
  refine qR 3 [.c [4]] [(6,.slice a9 acc.length k9)] ?_
  refine qT (.slice a9 acc.length k9) Tryz.func71 ?_
  refine⟨_,rfl,H.done,(H.pick [] rfl).reW ?_⟩
  rw[←hinv0.2.2,List.drop_of_length_le (by omega),mixAll_nil]
def chunk(xs:List (BitVec 8))(l i:Nat):List (BitVec 8):=(xs.drop (i*l)).take l++List.replicate (l-(xs.length-i*l)) 0#8
def dataOf(xs:List (BitVec 8))(l k:Nat):List (List (BitVec 8)):=(List.range k).map (chunk xs l)
def enc(xs:List (BitVec 8))(k n:Nat):List (List (BitVec 8)):=
 dataOf xs (lenOf xs.length k) k++(List.range (n-k)).map fun j=>mixAll (genRow k (k+j)) (dataOf xs (lenOf xs.length k) k) (List.replicate (lenOf xs.length k) 0#8)
theorem chunk_len(xs:List (BitVec 8))(l i:Nat):(chunk xs l i).length=l:=by
 simp[chunk];omega
theorem dataOf_len(xs:List (BitVec 8))(l k:Nat):(dataOf xs l k).length=k:=by simp[dataOf]
theorem dataOf_all(xs:List (BitVec 8))(l k:Nat):∀d∈dataOf xs l k,d.length=l:=by
 intro d hd
 obtain⟨i,_,rfl⟩:=List.mem_map.1 hd
 exact chunk_len xs l i
theorem enc_len{xs:List (BitVec 8)}{k n:Nat}(h:k≤n):(enc xs k n).length=n:=by
 simp[enc,dataOf_len];omega
theorem chunk_copy(xs:List (BitVec 8))(l i:Nat):(xs.drop (i*l)).take (List.replicate l 0#8).length++(List.replicate l 0#8).drop (xs.drop (i*l)).length=chunk xs l i:=by
 simp[chunk]
theorem chunk_zero{xs:List (BitVec 8)}{l i:Nat}(h:xs.length≤i*l):List.replicate l 0#8=chunk xs l i:=by
 unfold chunk
 rw[List.drop_of_length_le h,Nat.sub_eq_zero_of_le h]
 simp
theorem enc_get1{xs:List (BitVec 8)}{k n i:Nat}(h:i<k):(enc xs k n)[i]?=some (chunk xs (lenOf xs.length k) i):=by
 unfold enc
 rw[List.getElem?_append_left (by rw[dataOf_len];exact h)]
 simp[dataOf,h]
theorem enc_get2{xs:List (BitVec 8)}{k n j:Nat}(h:j<n-k):(enc xs k n)[k+j]?=some (mixAll (genRow k (k+j)) (dataOf xs (lenOf xs.length k) k) (List.replicate (lenOf xs.length k) 0#8)):=by
 unfold enc
 rw[List.getElem?_append_right (by rw[dataOf_len];omega),dataOf_len,Nat.add_sub_cancel_left]
 simp[h]
theorem take_snoc{α:Type}{l:List α}{i:Nat}{x:α}(h:l[i]?=some x):l.take i++[x]=l.take (i+1):=by
 rw[List.take_add_one,h];rfl
theorem enc_data{xs:List (BitVec 8)}{k n j:Nat}:((enc xs k n).take (k+j)).take k=dataOf xs (lenOf xs.length k) k:=by
 rw[List.take_take,Nat.min_eq_left (by omega)]
 unfold enc
 rw[List.take_append_of_le_length (by rw[dataOf_len];exact Nat.le_refl _),List.take_of_length_le (by rw[dataOf_len];exact Nat.le_refl _)]
theorem gen_drop{k n j:Nat}(h:j<n-k):((gen k n).drop k)[j]?=some (genRow k (k+j)):=by
 rw[List.getElem?_drop]
 unfold gen
 rw[List.getElem?_map,List.getElem?_range (by omega)]
 rfl
theorem genRow_len(k i:Nat):(genRow k i).length=k:=by simp[genRow]
theorem encode_ok{S:Nat→Prop}{w:World}{xs:List (BitVec 8)}{a:Option Addr}{c:Nat}(k n:Nat)(h:SB.rep S w [.slice a xs.length c] xs)(hs:xs.length≤65536)(hk:1≤k)(hkn:k≤n)(hn:n≤255):
 Calls Tryz.prog 40 #[.slice a xs.length c,.I k,.I n] w (Ret fun v w'=>Ext w w'∧∃(a:Option Addr)(c:Nat),v=.tuple #[.slice a (enc xs k n).length c,.I 0]∧(Shape.slice SB).rep (Nw S w) w' [.slice a (enc xs k n).length c] (enc xs k n)):=by
 have hL:=lenOf_le (size:=xs.length) (k:=k) (by omega)
 refine qS (fn:=Tryz.f40) (n:=77) (σ:=[(0,.slice a xs.length c),(1,.I k),(2,.I n)]) Tryz.func40 ?_
 have H:=Hp.startF (w:=w) (S:=S) (G:=[Rp SB [.slice a xs.length c] xs]) (.rp h .nil)
 refine qR 3 [.c [1,0],.c [2]] [(0,.slice a xs.length c),(1,.I k),(2,.I n)] ?_
 refine qG (sq 0 10) ?_
 refine qP 4 (sq 4 10) [(0,.slice a xs.length c),(1,.I k),(2,.I n),(20,.I ((xs.length:Nat):Int)),(21,.I k),(22,.I n)] ?_
 refine qK .seq (some 23) (sq 5 10) 69 #[.I ((xs.length:Nat):Int),.I k,.I n] (sizes_ok (S:=fun _=>True) xs.length k n (by omega) (by omega) (by omega) (by omega)) ?_
 rintro _ w1 hE2 rfl
 have H:=H.ext hE2
 refine qF 5 [(0,.slice a xs.length c),(1,.I k),(2,.I n),(8,.I ((lenOf xs.length k:Nat):Int)),(9,.I 0)] ?_
 refine qR 11 [.c [4,0,1,0],.b 0,.c [5]] [(0,.slice a xs.length c),(1,.I k),(2,.I n),(8,.I ((lenOf xs.length k:Nat):Int)),(10,.slice none 0 0),(29,.I k),(30,.I 0)] ?_
 have H:=H.ownNil SB 28
 refine WK.loop (α:=Nat×Option Addr×Nat) (b:=cd Tryz.prog 40 [4,0,1,0,0]) (by as_aux_lemma=>kernel_rfl) (fun st_=>match st_ with|(i,ao,co)=>[(0,.slice a xs.length c),(1,.I k),(2,.I n),(8,.I ((lenOf xs.length k:Nat):Int)),(10,.slice ao (((enc xs k n).take i).length) co),(29,.I k),(30,.I i)]) (fun st_ w'=>match st_ with|(i,ao,co)=>Hp w S [] [] [⟨SB,28,.slice ao (((enc xs k n).take i).length) co,(enc xs k n).take i⟩] [Rp SB [.slice a xs.length c] xs] w'∧i≤k) (fun st_=>match st_ with|(i,ao,co)=>k-i) (0,none,0) ⟨H,Nat.zero_le _⟩ (rfl) ?_
 rintro⟨i,ao,co⟩w4⟨H,hinv0⟩hback3
 have hil:i*(lenOf xs.length k)≤255*65536:=Nat.mul_le_mul (by omega) (by omega)
 have hil2:(i:Int)*(((lenOf xs.length k):Nat):Int)=((i*(lenOf xs.length k):Nat):Int):=by simp
 refine qR 3 [.c [4,0,1,0,0,1,0],.c [4,0,1,0,0,2],.l [4,0,1,0,0],.b 0,.c [5]] [(0,.slice a xs.length c),(1,.I k),(2,.I n),(8,.I ((lenOf xs.length k:Nat):Int)),(10,.slice ao (((enc xs k n).take i).length) co),(29,.I k),(30,.I i),(31,.bool (decide (((i:Int):Int)<(k:Int))))] ?_
 refine qD (((i:Int):Int)<(k:Int)) (fun h5=>?_) (fun h5=>?_)
 ·
  refine qR 6 [.c [4,0,1,0,0,2,0,0,1,0],.c [4,0,1,0,0,2,0,0,2],.b 1,.c [4,0,1,0,0,3],.l [4,0,1,0,0],.b 0,.c [5]] [(0,.slice a xs.length c),(1,.I k),(2,.I n),(8,.I ((lenOf xs.length k:Nat):Int)),(10,.slice ao (((enc xs k n).take i).length) co),(11,.I i),(29,.I k),(30,.I i)] ?_
  refine qG (sq 0 3) ?_
  refine qP 1 (sq 1 3) [(0,.slice a xs.length c),(1,.I k),(2,.I n),(8,.I ((lenOf xs.length k:Nat):Int)),(10,.slice ao (((enc xs k n).take i).length) co),(11,.I i),(29,.I k),(30,.I i),(33,.I ((lenOf xs.length k:Nat):Int))] ?_
  refine RW.makeW Sb (κ:=.seq) (d:=some 34) (r:=(sq 2 3)) (T:=28) (e:=5) (by_:=1) (v0:=.int .u8 0) (0#8:BitVec 8) (kl:=.i64) (kc:=.i64) (lv:=((lenOf xs.length k:Nat):Int)) (cv:=((lenOf xs.length k:Nat):Int)) (by as_aux_lemma=>kernel_rfl) (nofun) (by as_aux_lemma=>kernel_rfl) rfl H (lenOf xs.length k) (lenOf xs.length k) (by omega) (by omega) (by omega) (by omega) (by omega) (fun _ _=>rfl) ?_
  intro b6 w7 H
  have H:Hp w S [] [] [⟨Sb,5,.slice (some ⟨b6,0,none⟩) (lenOf xs.length k) (lenOf xs.length k),(List.replicate (lenOf xs.length k) (0#8:BitVec 8))⟩,⟨SB,28,.slice ao (((enc xs k n).take i).length) co,(enc xs k n).take i⟩] [Rp SB [.slice a xs.length c] xs] _:=H
  refine qF 1 [(0,.slice a xs.length c),(1,.I k),(2,.I n),(8,.I ((lenOf xs.length k:Nat):Int)),(10,.slice ao (((enc xs k n).take i).length) co),(11,.I i),(12,.slice (some ⟨b6,0,none⟩) (lenOf xs.length k) (lenOf xs.length k)),(29,.I k),(30,.I i)] ?_
  refine qR 2 [.c [4,0,1,0,0,2,0,0,2,0,0],.c [4,0,1,0,0,2,0,0,2,0,1],.c [4,0,1,0,0,2,0,0,3],.b 1,.c [4,0,1,0,0,3],.l [4,0,1,0,0],.b 0,.c [5]] [(0,.slice a xs.length c),(1,.I k),(2,.I n),(8,.I ((lenOf xs.length k:Nat):Int)),(10,.slice ao (((enc xs k n).take i).length) co),(11,.I i),(12,.slice (some ⟨b6,0,none⟩) (lenOf xs.length k) (lenOf xs.length k)),(29,.I k),(30,.I i)] ?_
  refine qG (sq 0 4) ?_
  refine qP 2 (sq 2 4) [(0,.slice a xs.length c),(1,.I k),(2,.I n),(8,.I ((lenOf xs.length k:Nat):Int)),(10,.slice ao (((enc xs k n).take i).length) co),(12,.slice (some ⟨b6,0,none⟩) (lenOf xs.length k) (lenOf xs.length k)),(29,.I k),(30,.I i),(35,.I i),(36,.I ((lenOf xs.length k:Nat):Int))] ?_
  refine qI .seq 37 (sq 3 4) ((i:Int)*((lenOf xs.length k:Nat):Int)) ?_
  refine qF 1 [(0,.slice a xs.length c),(1,.I k),(2,.I n),(8,.I ((lenOf xs.length k:Nat):Int)),(10,.slice ao (((enc xs k n).take i).length) co),(12,.slice (some ⟨b6,0,none⟩) (lenOf xs.length k) (lenOf xs.length k)),(13,.I ((i:Int)*((lenOf xs.length k:Nat):Int))),(29,.I k),(30,.I i)] ?_
  refine qR 2 [.c [4,0,1,0,0,2,0,0,2,0,2],.c [4,0,1,0,0,2,0,0,3],.b 1,.c [4,0,1,0,0,3],.l [4,0,1,0,0],.b 0,.c [5]] [(0,.slice a xs.length c),(1,.I k),(2,.I n),(8,.I ((lenOf xs.length k:Nat):Int)),(10,.slice ao (((enc xs k n).take i).length) co),(12,.slice (some ⟨b6,0,none⟩) (lenOf xs.length k) (lenOf xs.length k)),(13,.I ((i:Int)*((lenOf xs.length k:Nat):Int))),(29,.I k),(30,.I i),(41,.bool (decide (((i:Int)*((lenOf xs.length k:Nat):Int):Int)<((xs.length:Nat):Int))))] ?_
  refine qD (((i:Int)*((lenOf xs.length k:Nat):Int):Int)<((xs.length:Nat):Int)) (fun h8=>?_) (fun h8=>?_)
  ·
   refine qG (sq 0 5) ?_
   refine qP 3 (sq 3 5) [(0,.slice a xs.length c),(1,.I k),(2,.I n),(8,.I ((lenOf xs.length k:Nat):Int)),(10,.slice ao (((enc xs k n).take i).length) co),(12,.slice (some ⟨b6,0,none⟩) (lenOf xs.length k) (lenOf xs.length k)),(29,.I k),(30,.I i),(42,.slice (some ⟨b6,0,none⟩) (lenOf xs.length k) (lenOf xs.length k)),(43,.slice a xs.length c),(44,.I ((i:Int)*((lenOf xs.length k:Nat):Int)))] ?_
   refine RW.slice (κ:=.seq) (d:=some 45) (r:=(sq 4 5)) (T:=28) (e:=5) (sh:=Sb) (a:=a) (len:=xs.length) (cap:=c) (zs:=(xs.drop (i*(lenOf xs.length k)))) (lv:=(some (.I ((i:Int)*((lenOf xs.length k:Nat):Int))))) (hv:=none) (by as_aux_lemma=>kernel_rfl) (by as_aux_lemma=>kernel_rfl) H 0 rfl (i*(lenOf xs.length k)) xs.length (.mk (by omega)) .nil (by omega) (by omega) (by rw[List.take_of_length_le (Nat.le_refl _)]) ?_
   intro a9 H
   refine RW.copyW (d:=some 46) (r:=(sq 5 5)) (T:=28) (T2:=28) (e:=5) (ty:=3) (m:=1) (zs:=chunk xs (lenOf xs.length k) i) (a:=(some ⟨b6,0,none⟩)) (dl:=(lenOf xs.length k)) (dc:=(lenOf xs.length k)) (a2:=a9) (sl:=((xs.drop (i*(lenOf xs.length k))).length)) (sc:=(c-(i*(lenOf xs.length k)))) (by as_aux_lemma=>kernel_rfl) (by as_aux_lemma=>kernel_rfl) rfl H 0 rfl (by simp) (chunk_copy _ _ _) ?_
   intro w10 H
   have H:Hp w S [] [] [⟨Sb,5,.slice (some ⟨b6,0,none⟩) (lenOf xs.length k) (lenOf xs.length k),chunk xs (lenOf xs.length k) i⟩,⟨SB,28,.slice ao (((enc xs k n).take i).length) co,(enc xs k n).take i⟩] [Rp SB [.slice a9 ((xs.drop (i*(lenOf xs.length k))).length) (c-(i*(lenOf xs.length k)))] (xs.drop (i*(lenOf xs.length k))),Rp SB [.slice a xs.length c] xs] _:=H
   refine qF 0 [(0,.slice a xs.length c),(1,.I k),(2,.I n),(8,.I ((lenOf xs.length k:Nat):Int)),(10,.slice ao (((enc xs k n).take i).length) co),(12,.slice (some ⟨b6,0,none⟩) (lenOf xs.length k) (lenOf xs.length k)),(29,.I k),(30,.I i)] ?_
   refine qG (sq 0 5) ?_
   refine qP 2 (sq 2 5) [(0,.slice a xs.length c),(1,.I k),(2,.I n),(8,.I ((lenOf xs.length k:Nat):Int)),(10,.slice ao (((enc xs k n).take i).length) co),(29,.I k),(30,.I i),(47,.slice ao (((enc xs k n).take i).length) co),(48,.slice (some ⟨b6,0,none⟩) (lenOf xs.length k) (lenOf xs.length k))] ?_
   refine RW.new (κ:=.seq) (d:=some 49) (r:=(sq 3 5)) (o:=.cells #[.slice (some ⟨b6,0,none⟩) (lenOf xs.length k) (lenOf xs.length k)] 28 (0,0)) (v:=fun b=>.slice (some ⟨b,0,none⟩) 1 1) (fun b=>by as_aux_lemma=>kernel_rfl) (nofun) H ?_
   intro b11 w12 H
   have H:Hp w S [] [(b11,.cells #[.slice (some ⟨b6,0,none⟩) (lenOf xs.length k) (lenOf xs.length k)] 28 (0,0))] [⟨SB,28,.slice ao (((enc xs k n).take i).length) co,(enc xs k n).take i⟩] [Rp SB [.slice (some ⟨b6,0,none⟩) (lenOf xs.length k) (lenOf xs.length k)] (chunk xs (lenOf xs.length k) i),Rp SB [.slice a9 ((xs.drop (i*(lenOf xs.length k))).length) (c-(i*(lenOf xs.length k)))] (xs.drop (i*(lenOf xs.length k))),Rp SB [.slice a xs.length c] xs] _:=H.freezeW 0 rfl
   have H:=H.freeze 0 rfl SB ([chunk xs (lenOf xs.length k) i]:List (List (BitVec 8))) 1 (by simp[maxLen]) (by first|exact Nat.le_refl _|simp) (EsP.cons (c:=[.slice (some ⟨b6,0,none⟩) (lenOf xs.length k) (lenOf xs.length k)]) (H.rp 0 rfl) EsP.nil)
   have H:Hp w S [] [] [⟨SB,28,.slice ao (((enc xs k n).take i).length) co,(enc xs k n).take i⟩] [Rp (Shape.slice SB) [.slice (some ⟨b11,0,none⟩) 1 1] ([chunk xs (lenOf xs.length k) i]:List (List (BitVec 8))),Rp SB [.slice (some ⟨b6,0,none⟩) (lenOf xs.length k) (lenOf xs.length k)] (chunk xs (lenOf xs.length k) i),Rp SB [.slice a9 ((xs.drop (i*(lenOf xs.length k))).length) (c-(i*(lenOf xs.length k)))] (xs.drop (i*(lenOf xs.length k))),Rp SB [.slice a xs.length c] xs] _:=H
   refine RW.appendW (d:=some 50) (r:=(sq 4 5)) (T:=74) (ty:=74) (e:=28) (m:=1) (by_:=24) (v:=.slice ao (((enc xs k n).take i).length) co) (a2:=(some ⟨b11,0,none⟩)) (l2:=1) (c2:=1) (zs:=(enc xs k n).take (i+1)) (by as_aux_lemma=>kernel_rfl) (by as_aux_lemma=>kernel_rfl) rfl H 0 rfl 0 rfl (take_snoc (by rw[enc_get1 (by omega)]<;>first|rfl|(rw[←chunk_zero (by omega)]))) (by rw[List.length_take];omega) ?_
   intro a13 c14 w16 H hc15
   have H:Hp w S [] [] [⟨SB,28,.slice a13 (((enc xs k n).take (i+1)).length) c14,(enc xs k n).take (i+1)⟩] [Rp (Shape.slice SB) [.slice (some ⟨b11,0,none⟩) 1 1] ([chunk xs (lenOf xs.length k) i]:List (List (BitVec 8))),Rp SB [.slice (some ⟨b6,0,none⟩) (lenOf xs.length k) (lenOf xs.length k)] (chunk xs (lenOf xs.length k) i),Rp SB [.slice a9 ((xs.drop (i*(lenOf xs.length k))).length) (c-(i*(lenOf xs.length k)))] (xs.drop (i*(lenOf xs.length k))),Rp SB [.slice a xs.length c] xs] _:=H
   refine qF 1 [(0,.slice a xs.length c),(1,.I k),(2,.I n),(8,.I ((lenOf xs.length k:Nat):Int)),(10,.slice a13 (((enc xs k n).take (i+1)).length) c14),(29,.I k),(30,.I i)] ?_
   refine qR 1 [.c [4,0,1,0,0,3],.l [4,0,1,0,0],.b 0,.c [5]] [(0,.slice a xs.length c),(1,.I k),(2,.I n),(8,.I ((lenOf xs.length k:Nat):Int)),(10,.slice a13 (((enc xs k n).take (i+1)).length) c14),(29,.I k),(30,.I i)] ?_
   refine qG (sq 0 2) ?_
   refine qI .seq 51 (sq 1 2) ((i:Int)+1) ?_
   refine qF 1 [(0,.slice a xs.length c),(1,.I k),(2,.I n),(8,.I ((lenOf xs.length k:Nat):Int)),(10,.slice a13 (((enc xs k n).take (i+1)).length) c14),(29,.I k),(30,.I ((i:Int)+1))] ?_
   have H:=H.pick [3] rfl
   exact WK.back (hback3 (i+1,a13,c14) _ ⟨H,by omega⟩ (by first|omega|(simp only[];omega))) (by as_aux_lemma=>kernel_rfl)
  ·
   refine qR 1 [.c [4,0,1,0,0,2,0,0,3],.b 1,.c [4,0,1,0,0,3],.l [4,0,1,0,0],.b 0,.c [5]] [(0,.slice a xs.length c),(1,.I k),(2,.I n),(8,.I ((lenOf xs.length k:Nat):Int)),(10,.slice ao (((enc xs k n).take i).length) co),(12,.slice (some ⟨b6,0,none⟩) (lenOf xs.length k) (lenOf xs.length k)),(29,.I k),(30,.I i)] ?_
   refine qG (sq 0 5) ?_
   refine qP 2 (sq 2 5) [(0,.slice a xs.length c),(1,.I k),(2,.I n),(8,.I ((lenOf xs.length k:Nat):Int)),(10,.slice ao (((enc xs k n).take i).length) co),(29,.I k),(30,.I i),(47,.slice ao (((enc xs k n).take i).length) co),(48,.slice (some ⟨b6,0,none⟩) (lenOf xs.length k) (lenOf xs.length k))] ?_
   refine RW.new (κ:=.seq) (d:=some 49) (r:=(sq 3 5)) (o:=.cells #[.slice (some ⟨b6,0,none⟩) (lenOf xs.length k) (lenOf xs.length k)] 28 (0,0)) (v:=fun b=>.slice (some ⟨b,0,none⟩) 1 1) (fun b=>by as_aux_lemma=>kernel_rfl) (nofun) H ?_
   intro b17 w18 H
   have H:Hp w S [] [(b17,.cells #[.slice (some ⟨b6,0,none⟩) (lenOf xs.length k) (lenOf xs.length k)] 28 (0,0))] [⟨SB,28,.slice ao (((enc xs k n).take i).length) co,(enc xs k n).take i⟩] [Rp SB [.slice (some ⟨b6,0,none⟩) (lenOf xs.length k) (lenOf xs.length k)] (List.replicate (lenOf xs.length k) (0#8:BitVec 8)),Rp SB [.slice a xs.length c] xs] _:=H.freezeW 0 rfl
   have H:=H.freeze 0 rfl SB ([(List.replicate (lenOf xs.length k) (0#8:BitVec 8))]:List (List (BitVec 8))) 1 (by simp[maxLen]) (by first|exact Nat.le_refl _|simp) (EsP.cons (c:=[.slice (some ⟨b6,0,none⟩) (lenOf xs.length k) (lenOf xs.length k)]) (H.rp 0 rfl) EsP.nil)
   have H:Hp w S [] [] [⟨SB,28,.slice ao (((enc xs k n).take i).length) co,(enc xs k n).take i⟩] [Rp (Shape.slice SB) [.slice (some ⟨b17,0,none⟩) 1 1] ([(List.replicate (lenOf xs.length k) (0#8:BitVec 8))]:List (List (BitVec 8))),Rp SB [.slice (some ⟨b6,0,none⟩) (lenOf xs.length k) (lenOf xs.length k)] (List.replicate (lenOf xs.length k) (0#8:BitVec 8)),Rp SB [.slice a xs.length c] xs] _:=H
   refine RW.appendW (d:=some 50) (r:=(sq 4 5)) (T:=74) (ty:=74) (e:=28) (m:=1) (by_:=24) (v:=.slice ao (((enc xs k n).take i).length) co) (a2:=(some ⟨b17,0,none⟩)) (l2:=1) (c2:=1) (zs:=(enc xs k n).take (i+1)) (by as_aux_lemma=>kernel_rfl) (by as_aux_lemma=>kernel_rfl) rfl H 0 rfl 0 rfl (take_snoc (by rw[enc_get1 (by omega)]<;>first|rfl|(rw[←chunk_zero (by omega)]))) (by rw[List.length_take];omega) ?_
   intro a19 c20 w22 H hc21
   have H:Hp w S [] [] [⟨SB,28,.slice a19 (((enc xs k n).take (i+1)).length) c20,(enc xs k n).take (i+1)⟩] [Rp (Shape.slice SB) [.slice (some ⟨b17,0,none⟩) 1 1] ([(List.replicate (lenOf xs.length k) (0#8:BitVec 8))]:List (List (BitVec 8))),Rp SB [.slice (some ⟨b6,0,none⟩) (lenOf xs.length k) (lenOf xs.length k)] (List.replicate (lenOf xs.length k) (0#8:BitVec 8)),Rp SB [.slice a xs.length c] xs] _:=H
   refine qF 1 [(0,.slice a xs.length c),(1,.I k),(2,.I n),(8,.I ((lenOf xs.length k:Nat):Int)),(10,.slice a19 (((enc xs k n).take (i+1)).length) c20),(29,.I k),(30,.I i)] ?_
   refine qR 1 [.c [4,0,1,0,0,3],.l [4,0,1,0,0],.b 0,.c [5]] [(0,.slice a xs.length c),(1,.I k),(2,.I n),(8,.I ((lenOf xs.length k:Nat):Int)),(10,.slice a19 (((enc xs k n).take (i+1)).length) c20),(29,.I k),(30,.I i)] ?_
   refine qG (sq 0 2) ?_
   refine qI .seq 51 (sq 1 2) ((i:Int)+1) ?_
   refine qF 1 [(0,.slice a xs.length c),(1,.I k),(2,.I n),(8,.I ((lenOf xs.length k:Nat):Int)),(10,.slice a19 (((enc xs k n).take (i+1)).length) c20),(29,.I k),(30,.I ((i:Int)+1))] ?_
   have H:=H.pick [2] rfl
   exact WK.back (hback3 (i+1,a19,c20) _ ⟨H,by omega⟩ (by first|omega|(simp only[];omega))) (by as_aux_lemma=>kernel_rfl)
 ·
  refine qR 2 [.c [5,0],.c [6]] [(1,.I k),(2,.I n),(8,.I ((lenOf xs.length k:Nat):Int)),(10,.slice ao (((enc xs k n).take i).length) co)] ?_
  refine qG (sq 0 8) ?_
  refine qP 2 (sq 2 8) [(1,.I k),(8,.I ((lenOf xs.length k:Nat):Int)),(10,.slice ao (((enc xs k n).take i).length) co),(53,.I k),(54,.I n)] ?_
  refine qK .seq (some 55) (sq 3 8) 70 #[.I k,.I n] (generator_spec (S:=Av S w [] (idsOf [] [⟨SB,28,.slice ao (((enc xs k n).take i).length) co,(enc xs k n).take i⟩])) k n (by omega) (by omega) (by omega)) ?_
  rintro _ w23 hE26⟨a24,c25,rfl,hr27⟩
  have H:=H.addN hE26 (F:=Rp (Shape.slice SB) [.slice a24 (gen k n).length c25] (gen k n)) hr27
  refine qF 5 [(1,.I k),(8,.I ((lenOf xs.length k:Nat):Int)),(10,.slice ao (((enc xs k n).take i).length) co),(14,.slice a24 (gen k n).length c25)] ?_
  refine qR 2 [.c [6,0,0],.c [6,0,1],.c [7]] [(1,.I k),(8,.I ((lenOf xs.length k:Nat):Int)),(10,.slice ao (((enc xs k n).take i).length) co),(14,.slice a24 (gen k n).length c25)] ?_
  refine qG (sq 0 5) ?_
  refine qP 2 (sq 2 5) [(1,.I k),(8,.I ((lenOf xs.length k:Nat):Int)),(10,.slice ao (((enc xs k n).take i).length) co),(58,.slice a24 (gen k n).length c25),(59,.I k)] ?_
  refine RW.slice (κ:=.seq) (d:=some 60) (r:=(sq 3 5)) (T:=74) (e:=28) (sh:=SB) (a:=a24) (len:=(gen k n).length) (cap:=c25) (zs:=((gen k n).drop k)) (lv:=(some (.I k))) (hv:=none) (by as_aux_lemma=>kernel_rfl) (by as_aux_lemma=>kernel_rfl) H 0 rfl k (gen k n).length (.mk (by omega)) .nil (by rw[gen_len];omega) (by rw[gen_len];omega) (by rw[List.take_of_length_le (Nat.le_refl _)]) ?_
  intro a28 H
  refine qF 2 [(1,.I k),(8,.I ((lenOf xs.length k:Nat):Int)),(10,.slice ao (((enc xs k n).take i).length) co),(60,.slice a28 (((gen k n).drop k).length) (c25-k)),(61,.I ((((gen k n).drop k).length:Nat):Int)),(62,.I 0)] ?_
  refine qR 1 [.c [6,0,1,0],.b 2,.c [7]] [(1,.I k),(8,.I ((lenOf xs.length k:Nat):Int)),(10,.slice ao (((enc xs k n).take i).length) co),(60,.slice a28 (((gen k n).drop k).length) (c25-k)),(61,.I ((((gen k n).drop k).length:Nat):Int)),(62,.I 0)] ?_
  have hik:k=i:=by omega
  subst hik
  refine WK.loop (α:=Nat×Option Addr×Nat) (b:=cd Tryz.prog 40 [6,0,1,0,0]) (by as_aux_lemma=>kernel_rfl) (fun st_=>match st_ with|(j,ao,co)=>[(1,.I k),(8,.I ((lenOf xs.length k:Nat):Int)),(10,.slice ao (((enc xs k n).take (k+j)).length) co),(60,.slice a28 (((gen k n).drop k).length) (c25-k)),(61,.I ((((gen k n).drop k).length:Nat):Int)),(62,.I j)]) (fun st_ w'=>match st_ with|(j,ao,co)=>Hp w S [] [] [⟨SB,28,.slice ao (((enc xs k n).take (k+j)).length) co,(enc xs k n).take (k+j)⟩] [Rp (Shape.slice SB) [.slice a28 (((gen k n).drop k).length) (c25-k)] ((gen k n).drop k),Rp (Shape.slice SB) [.slice a24 (gen k n).length c25] (gen k n),Rp SB [.slice a xs.length c] xs] w'∧j≤n-k) (fun st_=>match st_ with|(j,ao,co)=>n-k-j) (0,ao,co) ⟨H,Nat.zero_le _⟩ (rfl) ?_
  rintro⟨j,ao,co⟩w30⟨H,hinv1⟩hback29
  have hdl:((gen k n).drop k).length=n-k:=by rw[List.length_drop,gen_len]
  have htl2:((enc xs k n).take (k+j)).length=k+j:=by rw[List.length_take,enc_len (by omega)];omega
  refine qR 3 [.c [6,0,1,0,0,1,0],.c [6,0,1,0,0,2],.l [6,0,1,0,0],.b 2,.c [7]] [(1,.I k),(8,.I ((lenOf xs.length k:Nat):Int)),(10,.slice ao (((enc xs k n).take (k+j)).length) co),(60,.slice a28 (((gen k n).drop k).length) (c25-k)),(61,.I ((((gen k n).drop k).length:Nat):Int)),(62,.I j),(63,.bool (decide (((j:Int):Int)<((((gen k n).drop k).length:Nat):Int))))] ?_
  refine qD (((j:Int):Int)<((((gen k n).drop k).length:Nat):Int)) (fun h31=>?_) (fun h31=>?_)
  ·
   refine qR 4 [.c [6,0,1,0,0,2,0,0,0],.c [6,0,1,0,0,2,0,0,1],.b 3,.c [6,0,1,0,0,3],.l [6,0,1,0,0],.b 2,.c [7]] [(1,.I k),(8,.I ((lenOf xs.length k:Nat):Int)),(10,.slice ao (((enc xs k n).take (k+j)).length) co),(60,.slice a28 (((gen k n).drop k).length) (c25-k)),(61,.I ((((gen k n).drop k).length:Nat):Int)),(62,.I j)] ?_
   refine qG (sq 0 3) ?_
   have hx32:j<((gen k n).drop k).length:=by omega
   refine qX .seq 64 (sq 1 3) 74 28 (j:Int) SB (genRow k (k+j)) H 0 rfl j (by omega) (gen_drop (by omega)) ?_
   intro b33 o34 es35 hr36 H
   obtain⟨a37,k38,rfl⟩:=Shape.slice_form' hr36
   have H:=H.add (F:=Rp SB [.slice a37 ((genRow k (k+j)).length) k38] (genRow k (k+j))) hr36
   refine qL .seq 65 (sq 2 3) 28 b33 o34 0 (.slice a37 ((genRow k (k+j)).length) k38) (H.fc 1 rfl) ?_
   refine qF 1 [(1,.I k),(8,.I ((lenOf xs.length k:Nat):Int)),(10,.slice ao (((enc xs k n).take (k+j)).length) co),(17,.slice a37 ((genRow k (k+j)).length) k38),(60,.slice a28 (((gen k n).drop k).length) (c25-k)),(61,.I ((((gen k n).drop k).length:Nat):Int)),(62,.I j)] ?_
   refine qG (sq 0 10) ?_
   refine qP 4 (sq 4 10) [(1,.I k),(8,.I ((lenOf xs.length k:Nat):Int)),(10,.slice ao (((enc xs k n).take (k+j)).length) co),(60,.slice a28 (((gen k n).drop k).length) (c25-k)),(61,.I ((((gen k n).drop k).length:Nat):Int)),(62,.I j),(66,.slice ao (((enc xs k n).take (k+j)).length) co),(67,.slice a37 ((genRow k (k+j)).length) k38),(68,.slice ao (((enc xs k n).take (k+j)).length) co),(69,.I k)] ?_
   refine RW.readS (κ:=.seq) (d:=some 70) (r:=(sq 5 10)) (s:=semV (Instr.sliceAt 74 (.slice ao (((enc xs k n).take (k+j)).length) co) none (some (.I k)) none)) (v:=.slice ao ((dataOf xs (lenOf xs.length k) k).length) co) (by as_aux_lemma=>kernel_rfl) (fun w' _=>semV_run (by rw[dataOf_len];exact sliceAt_run0 (e:=28) (m:=1) (by as_aux_lemma=>kernel_rfl) (hi:=k) (.mk (by omega)) (by have:=H.ownForm 0 rfl;obtain⟨_,_,hq,hq2,_⟩:=this;simp only[Value.slice.injEq]at hq;rw[List.length_take,enc_len (by omega)]at hq2;omega))) ?_
   refine qP 1 (sq 6 10) [(1,.I k),(8,.I ((lenOf xs.length k:Nat):Int)),(10,.slice ao (((enc xs k n).take (k+j)).length) co),(60,.slice a28 (((gen k n).drop k).length) (c25-k)),(61,.I ((((gen k n).drop k).length:Nat):Int)),(62,.I j),(66,.slice ao (((enc xs k n).take (k+j)).length) co),(67,.slice a37 ((genRow k (k+j)).length) k38),(70,.slice ao ((dataOf xs (lenOf xs.length k) k).length) co),(71,.I ((lenOf xs.length k:Nat):Int))] ?_
   refine qK .seq (some 72) (sq 7 10) 71 #[.slice a37 ((genRow k (k+j)).length) k38,.slice ao ((dataOf xs (lenOf xs.length k) k).length) co,.I ((lenOf xs.length k:Nat):Int)] (mixed_spec (S:=fun _=>True) (row:=(genRow k (k+j))) (ds:=dataOf xs (lenOf xs.length k) k) (lenOf xs.length k) (H.viewR 0 rfl) (Shape.rep_take (H.view 0 rfl) k (by rw[List.length_take,enc_len (by omega)];omega) enc_data) (by rw[genRow_len,dataOf_len];exact Nat.le_refl _) (dataOf_all _ _ _) (by omega)) ?_
   rintro v40 w39-H'
   have H:=H.back (M1:=[]) (W1:=[]) H'.reSbv
   obtain⟨a41,c42,rfl,hc43,hm44⟩:=H.ownForm 0 rfl
   have H:Hp w S [] [] [⟨Sb,5,.slice a41 ((mixAll (genRow k (k+j)) (dataOf xs (lenOf xs.length k) k) (List.replicate (lenOf xs.length k) 0#8)).length) c42,mixAll (genRow k (k+j)) (dataOf xs (lenOf xs.length k) k) (List.replicate (lenOf xs.length k) 0#8)⟩,⟨SB,28,.slice ao (((enc xs k n).take (k+j)).length) co,(enc xs k n).take (k+j)⟩] [Rp SB [.slice a37 ((genRow k (k+j)).length) k38] (genRow k (k+j)),Fc b33 o34 [.slice a37 ((genRow k (k+j)).length) k38],Rp (Shape.slice SB) [.slice a28 (((gen k n).drop k).length) (c25-k)] ((gen k n).drop k),Rp (Shape.slice SB) [.slice a24 (gen k n).length c25] (gen k n),Rp SB [.slice a xs.length c] xs] _:=H
   refine RW.new (κ:=.seq) (d:=some 73) (r:=(sq 8 10)) (o:=.cells #[.slice a41 ((mixAll (genRow k (k+j)) (dataOf xs (lenOf xs.length k) k) (List.replicate (lenOf xs.length k) 0#8)).length) c42] 28 (0,0)) (v:=fun b=>.slice (some ⟨b,0,none⟩) 1 1) (fun b=>by as_aux_lemma=>kernel_rfl) (nofun) H ?_
   intro b45 w46 H
   have H:Hp w S [] [(b45,.cells #[.slice a41 ((mixAll (genRow k (k+j)) (dataOf xs (lenOf xs.length k) k) (List.replicate (lenOf xs.length k) 0#8)).length) c42] 28 (0,0))] [⟨SB,28,.slice ao (((enc xs k n).take (k+j)).length) co,(enc xs k n).take (k+j)⟩] [Rp SB [.slice a41 ((mixAll (genRow k (k+j)) (dataOf xs (lenOf xs.length k) k) (List.replicate (lenOf xs.length k) 0#8)).length) c42] (mixAll (genRow k (k+j)) (dataOf xs (lenOf xs.length k) k) (List.replicate (lenOf xs.length k) 0#8)),Rp SB [.slice a37 ((genRow k (k+j)).length) k38] (genRow k (k+j)),Fc b33 o34 [.slice a37 ((genRow k (k+j)).length) k38],Rp (Shape.slice SB) [.slice a28 (((gen k n).drop k).length) (c25-k)] ((gen k n).drop k),Rp (Shape.slice SB) [.slice a24 (gen k n).length c25] (gen k n),Rp SB [.slice a xs.length c] xs] _:=H.freezeW 0 rfl
   have H:=H.freeze 0 rfl SB ([mixAll (genRow k (k+j)) (dataOf xs (lenOf xs.length k) k) (List.replicate (lenOf xs.length k) 0#8)]:List (List (BitVec 8))) 1 (by simp[maxLen]) (by first|exact Nat.le_refl _|simp) (EsP.cons (c:=[.slice a41 ((mixAll (genRow k (k+j)) (dataOf xs (lenOf xs.length k) k) (List.replicate (lenOf xs.length k) 0#8)).length) c42]) (H.rp 0 rfl) EsP.nil)
   have H:Hp w S [] [] [⟨SB,28,.slice ao (((enc xs k n).take (k+j)).length) co,(enc xs k n).take (k+j)⟩] [Rp (Shape.slice SB) [.slice (some ⟨b45,0,none⟩) 1 1] ([mixAll (genRow k (k+j)) (dataOf xs (lenOf xs.length k) k) (List.replicate (lenOf xs.length k) 0#8)]:List (List (BitVec 8))),Rp SB [.slice a41 ((mixAll (genRow k (k+j)) (dataOf xs (lenOf xs.length k) k) (List.replicate (lenOf xs.length k) 0#8)).length) c42] (mixAll (genRow k (k+j)) (dataOf xs (lenOf xs.length k) k) (List.replicate (lenOf xs.length k) 0#8)),Rp SB [.slice a37 ((genRow k (k+j)).length) k38] (genRow k (k+j)),Fc b33 o34 [.slice a37 ((genRow k (k+j)).length) k38],Rp (Shape.slice SB) [.slice a28 (((gen k n).drop k).length) (c25-k)] ((gen k n).drop k),Rp (Shape.slice SB) [.slice a24 (gen k n).length c25] (gen k n),Rp SB [.slice a xs.length c] xs] _:=H
   refine RW.appendW (d:=some 74) (r:=(sq 9 10)) (T:=74) (ty:=74) (e:=28) (m:=1) (by_:=24) (v:=.slice ao (((enc xs k n).take (k+j)).length) co) (a2:=(some ⟨b45,0,none⟩)) (l2:=1) (c2:=1) (zs:=(enc xs k n).take (k+j+1)) (by as_aux_lemma=>kernel_rfl) (by as_aux_lemma=>kernel_rfl) rfl H 0 rfl 0 rfl (take_snoc (enc_get2 (by omega))) (by rw[List.length_take];omega) ?_
   intro a47 c48 w50 H hc49
   have H:Hp w S [] [] [⟨SB,28,.slice a47 (((enc xs k n).take (k+j+1)).length) c48,(enc xs k n).take (k+j+1)⟩] [Rp (Shape.slice SB) [.slice (some ⟨b45,0,none⟩) 1 1] ([mixAll (genRow k (k+j)) (dataOf xs (lenOf xs.length k) k) (List.replicate (lenOf xs.length k) 0#8)]:List (List (BitVec 8))),Rp SB [.slice a41 ((mixAll (genRow k (k+j)) (dataOf xs (lenOf xs.length k) k) (List.replicate (lenOf xs.length k) 0#8)).length) c42] (mixAll (genRow k (k+j)) (dataOf xs (lenOf xs.length k) k) (List.replicate (lenOf xs.length k) 0#8)),Rp SB [.slice a37 ((genRow k (k+j)).length) k38] (genRow k (k+j)),Fc b33 o34 [.slice a37 ((genRow k (k+j)).length) k38],Rp (Shape.slice SB) [.slice a28 (((gen k n).drop k).length) (c25-k)] ((gen k n).drop k),Rp (Shape.slice SB) [.slice a24 (gen k n).length c25] (gen k n),Rp SB [.slice a xs.length c] xs] _:=H
   refine qF 1 [(1,.I k),(8,.I ((lenOf xs.length k:Nat):Int)),(10,.slice a47 (((enc xs k n).take (k+j+1)).length) c48),(60,.slice a28 (((gen k n).drop k).length) (c25-k)),(61,.I ((((gen k n).drop k).length:Nat):Int)),(62,.I j)] ?_
   refine qR 1 [.c [6,0,1,0,0,3],.l [6,0,1,0,0],.b 2,.c [7]] [(1,.I k),(8,.I ((lenOf xs.length k:Nat):Int)),(10,.slice a47 (((enc xs k n).take (k+j+1)).length) c48),(60,.slice a28 (((gen k n).drop k).length) (c25-k)),(61,.I ((((gen k n).drop k).length:Nat):Int)),(62,.I j)] ?_
   refine qG (sq 0 2) ?_
   refine qI .seq 75 (sq 1 2) ((j:Int)+1) ?_
   refine qF 1 [(1,.I k),(8,.I ((lenOf xs.length k:Nat):Int)),(10,.slice a47 (((enc xs k n).take (k+j+1)).length) c48),(60,.slice a28 (((gen k n).drop k).length) (c25-k)),(61,.I ((((gen k n).drop k).length:Nat):Int)),(62,.I ((j:Int)+1))] ?_
   have H:=H.pick [4,5,6] rfl
   exact WK.back (hback29 (j+1,a47,c48) _ ⟨H,by omega⟩ (by first|omega|(simp only[];omega))) (by as_aux_lemma=>kernel_rfl)
  ·
   refine qR 3 [.c [8]] [(6,.slice ao (((enc xs k n).take (k+j)).length) co),(7,.I 0)] ?_
   refine qT (.tuple #[.slice ao (((enc xs k n).take (k+j)).length) co,.I 0]) Tryz.func40 ?_
   have H:Hp w S [] [] [] [Rp (Shape.slice SB) [.slice ao (((enc xs k n).take (k+j)).length) co] ((enc xs k n).take (k+j)),Rp (Shape.slice SB) [.slice a28 (((gen k n).drop k).length) (c25-k)] ((gen k n).drop k),Rp (Shape.slice SB) [.slice a24 (gen k n).length c25] (gen k n),Rp SB [.slice a xs.length c] xs] _:=H.freezeW 0 rfl
   rw[List.take_of_length_le (by rw[enc_len (by omega)];rw[List.length_drop,gen_len]at*;omega)]at H⊢
   exact⟨_,rfl,H.done,_,_,rfl,H.out (H.rp 0 rfl)⟩
end Go.Proofs.YtcafjhnjhhicdaaGreatDoor
