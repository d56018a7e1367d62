import Derived.Test.YtcafjhnjhhicdaaGreatDoorSC4
namespace Go.Proofs.YtcafjhnjhhicdaaGreatDoor
open Go.BX
set_option maxHeartbeats 1000000 in
theorem do_code_g{S:Nat→Prop}{w:World}{O:List Nat}{cb:Nat}{x1 x2:Value}{s:ByteArray}{xs:List (BitVec 8)}{k n:Nat}(hk:1≤k)(hkn:k≤n)(hn:n≤9)(hxl:xs.length≤200)(hs4:s.size<4294967281)(hw:wordsB s=([(⟨#[99,111,100,101]⟩:ByteArray),digB k,digB n,hexB xs]))(H0:Hp w S O [(cb,.cells #[.bool true,x1,x2,.pointer none] 38 (0,0))] [] [Fz cQ] w):
 Calls Tryz.prog 7 #[.P cb 0,.string s] w (Ret fun v w'=>v=.string (outB (enc xs k n))∧Hp w S O [(cb,.cells #[.bool true,x1,x2,.pointer none] 38 (0,0))] [] [] w'):=by
 have hwl:([(⟨#[99,111,100,101]⟩:ByteArray),digB k,digB n,hexB xs]).length=4:=by simp
 refine qS (fn:=Tryz.f7) (n:=57) (σ:=[(0,.P cb 0),(1,.string s)]) Tryz.func7 ?_
 have H:=H0
 refine qR 4 [.c [1,0,0],.c [1,0,1],.c [2]] [(0,.P cb 0),(1,.string s)] ?_
 refine qG (sq 0 9) ?_
 refine qP 6 (sq 6 9) [(0,.P cb 0),(1,.string s),(13,.bool false),(16,.P cb 0)] ?_
 refine qL .seq 17 (sq 7 9) 4 cb 0 0 (.bool true) (H.cells 0 rfl) ?_
 refine qF 2 [(0,.P cb 0),(1,.string s),(19,.bool false)] ?_
 refine qR 3 [.c [2,0],.c [3]] [(0,.P cb 0),(1,.string s)] ?_
 refine qG (sq 0 3) ?_
 refine qP 1 (sq 1 3) [(0,.P cb 0),(20,.string s)] ?_
 refine qK .seq (some 21) (sq 2 3) 10 #[.string s] (words_lit (S:=Av S w O (idsOf [(cb,.cells #[.bool true,x1,x2,.pointer none] 38 (0,0))] [])) (s:=s) (ws:=([(⟨#[99,111,100,101]⟩:ByteArray),digB k,digB n,hexB xs])) hw hs4 (H.fact 0 rfl)) ?_
 rintro v2 w1-H'
 have H:=H.back (M1:=[]) (W1:=[]) H'
 obtain⟨a3,c4,rfl,hc5,hm6⟩:=H.ownForm 0 rfl
 have H:Hp w S O [(cb,.cells #[.bool true,x1,x2,.pointer none] 38 (0,0))] [⟨Shape.str,9,.slice a3 (([(⟨#[99,111,100,101]⟩:ByteArray),digB k,digB n,hexB xs]).length) c4,([(⟨#[99,111,100,101]⟩:ByteArray),digB k,digB n,hexB xs])⟩] [Fz cQ] _:=H
 have H:Hp w S O [(cb,.cells #[.bool true,x1,x2,.pointer none] 38 (0,0))] [] [Rp (Shape.slice Shape.str) [.slice a3 (([(⟨#[99,111,100,101]⟩:ByteArray),digB k,digB n,hexB xs]).length) c4] ([(⟨#[99,111,100,101]⟩:ByteArray),digB k,digB n,hexB xs]),Fz cQ] _:=H.freezeW 0 rfl
 refine qF 1 [(0,.P cb 0),(5,.slice a3 (([(⟨#[99,111,100,101]⟩:ByteArray),digB k,digB n,hexB xs]).length) c4)] ?_
 refine qR 2 [.c [3,0,0],.c [3,0,1],.c [4]] [(0,.P cb 0),(5,.slice a3 (([(⟨#[99,111,100,101]⟩:ByteArray),digB k,digB n,hexB xs]).length) c4)] ?_
 refine qG (sq 0 10) ?_
 refine qP 4 (sq 4 10) [(0,.P cb 0),(5,.slice a3 (([(⟨#[99,111,100,101]⟩:ByteArray),digB k,digB n,hexB xs]).length) c4),(25,.bool (((([(⟨#[99,111,100,101]⟩:ByteArray),digB k,digB n,hexB xs]).length:Nat):Int)==0))] ?_
 refine tE (fun b_=>[(0,.P cb 0),(5,.slice a3 (([(⟨#[99,111,100,101]⟩:ByteArray),digB k,digB n,hexB xs]).length) c4),(25,.bool b_)]) ((([(⟨#[99,111,100,101]⟩:ByteArray),digB k,digB n,hexB xs]).length:Nat):Int) 0 (fun h7=>?_) (fun h7=>?_)
 ·
  omega
 ·
  refine qP 1 (sq 5 10) [(0,.P cb 0),(5,.slice a3 (([(⟨#[99,111,100,101]⟩:ByteArray),digB k,digB n,hexB xs]).length) c4),(25,.bool false),(26,.slice a3 (([(⟨#[99,111,100,101]⟩:ByteArray),digB k,digB n,hexB xs]).length) c4)] ?_
  have hx8:0<([(⟨#[99,111,100,101]⟩:ByteArray),digB k,digB n,hexB xs]).length:=by omega
  refine qX .seq 27 (sq 6 10) 22 9 0 Shape.str (⟨#[99,111,100,101]⟩:ByteArray) H 0 rfl 0 (by omega) (rfl) ?_
  intro b9 o10 es11 hr12 H
  obtain⟨rfl,hshr12⟩:=hr12
  have H:Hp w S O [(cb,.cells #[.bool true,x1,x2,.pointer none] 38 (0,0))] [] [Fc b9 o10 [.string (⟨#[99,111,100,101]⟩:ByteArray)],Rp (Shape.slice Shape.str) [.slice a3 (([(⟨#[99,111,100,101]⟩:ByteArray),digB k,digB n,hexB xs]).length) c4] ([(⟨#[99,111,100,101]⟩:ByteArray),digB k,digB n,hexB xs]),Fz cQ] _:=H
  refine qL .seq 28 (sq 7 10) 9 b9 o10 0 (.string (⟨#[99,111,100,101]⟩:ByteArray)) (H.fc 0 rfl) ?_
  refine RW.strAt (κ:=.seq) (d:=some 29) (r:=(sq 8 10)) (T:=9) (s:=(⟨#[99,111,100,101]⟩:ByteArray)) (k:=.i64) (t:=0) 0 (by as_aux_lemma=>kernel_rfl) (by as_aux_lemma=>kernel_rfl) (by omega) (by decide) ?_
  refine qF 2 [(0,.P cb 0),(5,.slice a3 (([(⟨#[99,111,100,101]⟩:ByteArray),digB k,digB n,hexB xs]).length) c4),(31,.bool false)] ?_
  refine qR 3 [.c [4,0],.c [5]] [(0,.P cb 0),(5,.slice a3 (([(⟨#[99,111,100,101]⟩:ByteArray),digB k,digB n,hexB xs]).length) c4)] ?_
  have H:=H.pick [1,2] rfl
  refine WK.draw1 10 [(1,.qui),(2,.qui),(3,.qui),(0,.chn),(4,.qui),(5,.qui),(6,.qui),(7,.qui),(8,.qui),(9,.qui)] [(1,.qui),(2,.qui),(3,.qui),(0,.chn),(4,.qui),(5,.qui),(6,.qui),(7,.qui),(8,.qui),(9,.qui)] Tryz_mixed (by as_aux_lemma=>kernel_rfl) (by as_aux_lemma=>kernel_rfl) (by as_aux_lemma=>kernel_rfl) ?_
  have H:=H.draw
  generalize({w1 with drawn:=w1.drawn+1}:World)=w13 at H⊢
  refine qP 1 [(2,.qui),(3,.qui),(0,.chn),(4,.qui),(5,.qui),(6,.qui),(7,.qui),(8,.qui),(9,.qui)] [(0,.P cb 0),(5,.slice a3 (([(⟨#[99,111,100,101]⟩:ByteArray),digB k,digB n,hexB xs]).length) c4),(34,.slice a3 (([(⟨#[99,111,100,101]⟩:ByteArray),digB k,digB n,hexB xs]).length) c4)] ?_
  have hx14:0<([(⟨#[99,111,100,101]⟩:ByteArray),digB k,digB n,hexB xs]).length:=by omega
  refine qX .qui 35 [(3,.qui),(0,.chn),(4,.qui),(5,.qui),(6,.qui),(7,.qui),(8,.qui),(9,.qui)] 22 9 0 Shape.str (⟨#[99,111,100,101]⟩:ByteArray) H 0 rfl 0 (by omega) (rfl) ?_
  intro b15 o16 es17 hr18 H
  obtain⟨rfl,hshr18⟩:=hr18
  have H:Hp w S O [(cb,.cells #[.bool true,x1,x2,.pointer none] 38 (0,0))] [] [Fc b15 o16 [.string (⟨#[99,111,100,101]⟩:ByteArray)],Rp (Shape.slice Shape.str) [.slice a3 (([(⟨#[99,111,100,101]⟩:ByteArray),digB k,digB n,hexB xs]).length) c4] ([(⟨#[99,111,100,101]⟩:ByteArray),digB k,digB n,hexB xs]),Fz cQ] _:=H
  refine qL .qui 36 [(0,.chn),(4,.qui),(5,.qui),(6,.qui),(7,.qui),(8,.qui),(9,.qui)] 9 b15 o16 0 (.string (⟨#[99,111,100,101]⟩:ByteArray)) (H.fc 0 rfl) ?_
  refine qK .chn (some 33) (qs [4,5,6,7,8,9]) 11 #[] (commands_spec (S:=Av S w O (idsOf [(cb,.cells #[.bool true,x1,x2,.pointer none] 38 (0,0))] []))) ?_
  rintro _ w19-⟨b20,rfl,H'⟩
  have H:=H.back (M1:=[]) (W1:=[]) H'
  have H:Hp w S O [(b20,mapO Value.string (fun v:Value=>v) cmdL16 16),(cb,.cells #[.bool true,x1,x2,.pointer none] 38 (0,0))] [] [Fc b15 o16 [.string (⟨#[99,111,100,101]⟩:ByteArray)],Rp (Shape.slice Shape.str) [.slice a3 (([(⟨#[99,111,100,101]⟩:ByteArray),digB k,digB n,hexB xs]).length) c4] ([(⟨#[99,111,100,101]⟩:ByteArray),digB k,digB n,hexB xs]),Fz cQ] _:=H
  refine RW.mapGet (κ:=.qui) (d:=some 37) (r:=(qs [5,6,7,8,9])) (T:=44) (mk:=Value.string) (vk:=(fun v:Value=>v)) (Kt:=9) (E:=42) (z:=(.nilFunc:Value)) (⟨#[99,111,100,101]⟩:ByteArray) true (by as_aux_lemma=>kernel_rfl) H 0 rfl (KeyOk.str (by as_aux_lemma=>kernel_rfl)) (by as_aux_lemma=>kernel_rfl) (fun w_=>zeroE_run (by as_aux_lemma=>kernel_rfl) w_) ?_
  refine qF 5 [(0,.P cb 0),(5,.slice a3 (([(⟨#[99,111,100,101]⟩:ByteArray),digB k,digB n,hexB xs]).length) c4),(6,.func (.func 15) #[] #[]),(7,.bool true)] ?_
  refine qR 6 [.c [6,0],.c [7]] [(0,.P cb 0),(5,.slice a3 (([(⟨#[99,111,100,101]⟩:ByteArray),digB k,digB n,hexB xs]).length) c4),(6,.func (.func 15) #[] #[])] ?_
  have H:=H.dropM 0
  have H:=H.pick [1,2] rfl
  refine qG (sq 0 10) ?_
  refine qP 3 (sq 3 10) [(44,.func (.func 15) #[] #[]),(45,.P cb 0),(46,.slice a3 (([(⟨#[99,111,100,101]⟩:ByteArray),digB k,digB n,hexB xs]).length) c4)] ?_
  refine RW.slice (κ:=.seq) (d:=some 47) (r:=(sq 4 10)) (T:=22) (e:=9) (sh:=Shape.str) (a:=a3) (len:=(([(⟨#[99,111,100,101]⟩:ByteArray),digB k,digB n,hexB xs]).length)) (cap:=c4) (zs:=([digB k,digB n,hexB xs])) (lv:=(some (.I 1))) (hv:=none) (by as_aux_lemma=>kernel_rfl) (by as_aux_lemma=>kernel_rfl) H 0 rfl 1 (([(⟨#[99,111,100,101]⟩:ByteArray),digB k,digB n,hexB xs]).length) (.mk (by omega)) .nil (by omega) (by omega) (by rw[List.take_of_length_le (Nat.le_refl _)];rfl) ?_
  intro a21 H
  refine qK .seq (some 48) (sq 5 10) 15 #[.P cb 0,.slice a21 ([digB k,digB n,hexB xs]).length (c4-1)] (code_spec (S:=Av S w O (idsOf [(cb,.cells #[.bool true,x1,x2,.pointer none] 38 (0,0))] [])) (H.rp 0 rfl) hk hkn hn hxl (H.fact 2 rfl)) ?_
  rintro _ w22 hE23 rfl
  have H:=H.ext hE23
  refine qF 5 [(8,.string (outB (enc xs k n))),(9,.nilIface)] ?_
  refine qR 1 [.c [7,0],.c [8]] [(8,.string (outB (enc xs k n))),(9,.nilIface)] ?_
  have H:=H.pick [2] rfl
  refine qG (sq 0 1) ?_
  refine qB .seq 10 (sq 1 1) #[.I 0] 46 H ?_
  intro b24 w25 H
  refine qF 0 [(8,.string (outB (enc xs k n))),(9,.nilIface),(10,.P b24 0)] ?_
  refine qR 2 [.c [8,0,0],.c [8,0,1],.c [9]] [(8,.string (outB (enc xs k n))),(9,.nilIface),(10,.P b24 0)] ?_
  refine qG (sq 0 3) ?_
  refine qP 2 (sq 2 3) [(8,.string (outB (enc xs k n))),(10,.P b24 0),(51,.nilIface),(52,.iface 52 (.P b24 0))] ?_
  refine qK .seq (some 53) (sq 3 3) 13 #[.nilIface,.iface 52 (.P b24 0)] (as_nil (S:=fun _=>True)) ?_
  rintro _ w26 hE27 rfl
  have H:=H.ext hE27
  refine qF 0 [(8,.string (outB (enc xs k n))),(10,.P b24 0),(53,.bool false)] ?_
  refine qR 4 [.c [10]] [(4,.string (outB (enc xs k n)))] ?_
  refine qT (.string (outB (enc xs k n))) Tryz.func7 ?_
  have H:=H.frontM 1 (M':=[(cb,.cells #[.bool true,x1,x2,.pointer none] 38 (0,0)),(b24,.cells #[.I 0] 46 (0,0))]) rfl
  have H:=H.drop (M':=[(cb,.cells #[.bool true,x1,x2,.pointer none] 38 (0,0))]) (W':=[]) (by repeat(first|exact List.Sublist.refl _|exact List.nil_sublist _|apply List.Sublist.cons_cons|apply List.Sublist.cons)) (by repeat(first|exact List.Sublist.refl _|exact List.nil_sublist _|apply List.Sublist.cons_cons|apply List.Sublist.cons))
  exact⟨_,rfl,rfl,H.pick [] rfl⟩
set_option maxHeartbeats 1000000 in
theorem do_decode_g{S:Nat→Prop}{w:World}{O:List Nat}{cb:Nat}{x1 x2:Value}{s:ByteArray}{xs:List (BitVec 8)}{k n:Nat}(hk:1≤k)(hkn:k≤n)(hn:n≤9)(hxl:xs.length≤200){ids:List Nat}(hid:∀i∈ids,i<n)(hnd:ids.Nodup)(hki:k≤ids.length)(hi9:ids.length≤9)(hs4:s.size<4294967281)(hw:wordsB s=([(⟨#[100,101,99,111,100,101]⟩:ByteArray),digB k,digB n,digB xs.length]++ids.map (tok (enc xs k n))))(H0:Hp w S O [(cb,.cells #[.bool true,x1,x2,.pointer none] 38 (0,0))] [] [Fz cQ] w):
 Calls Tryz.prog 7 #[.P cb 0,.string s] w (Ret fun v w'=>v=.string (hexB xs++(⟨#[10]⟩:ByteArray))∧Hp w S O [(cb,.cells #[.bool true,x1,x2,.pointer none] 38 (0,0))] [] [] w'):=by
 have hwl:([(⟨#[100,101,99,111,100,101]⟩:ByteArray),digB k,digB n,digB xs.length]++ids.map (tok (enc xs k n))).length=ids.length+4:=by simp
 refine qS (fn:=Tryz.f7) (n:=57) (σ:=[(0,.P cb 0),(1,.string s)]) Tryz.func7 ?_
 have H:=H0
 refine qR 4 [.c [1,0,0],.c [1,0,1],.c [2]] [(0,.P cb 0),(1,.string s)] ?_
 refine qG (sq 0 9) ?_
 refine qP 6 (sq 6 9) [(0,.P cb 0),(1,.string s),(13,.bool false),(16,.P cb 0)] ?_
 refine qL .seq 17 (sq 7 9) 4 cb 0 0 (.bool true) (H.cells 0 rfl) ?_
 refine qF 2 [(0,.P cb 0),(1,.string s),(19,.bool false)] ?_
 refine qR 3 [.c [2,0],.c [3]] [(0,.P cb 0),(1,.string s)] ?_
 refine qG (sq 0 3) ?_
 refine qP 1 (sq 1 3) [(0,.P cb 0),(20,.string s)] ?_
 refine qK .seq (some 21) (sq 2 3) 10 #[.string s] (words_lit (S:=Av S w O (idsOf [(cb,.cells #[.bool true,x1,x2,.pointer none] 38 (0,0))] [])) (s:=s) (ws:=([(⟨#[100,101,99,111,100,101]⟩:ByteArray),digB k,digB n,digB xs.length]++ids.map (tok (enc xs k n)))) hw hs4 (H.fact 0 rfl)) ?_
 rintro v2 w1-H'
 have H:=H.back (M1:=[]) (W1:=[]) H'
 obtain⟨a3,c4,rfl,hc5,hm6⟩:=H.ownForm 0 rfl
 have H:Hp w S O [(cb,.cells #[.bool true,x1,x2,.pointer none] 38 (0,0))] [⟨Shape.str,9,.slice a3 (([(⟨#[100,101,99,111,100,101]⟩:ByteArray),digB k,digB n,digB xs.length]++ids.map (tok (enc xs k n))).length) c4,([(⟨#[100,101,99,111,100,101]⟩:ByteArray),digB k,digB n,digB xs.length]++ids.map (tok (enc xs k n)))⟩] [Fz cQ] _:=H
 have H:Hp w S O [(cb,.cells #[.bool true,x1,x2,.pointer none] 38 (0,0))] [] [Rp (Shape.slice Shape.str) [.slice a3 (([(⟨#[100,101,99,111,100,101]⟩:ByteArray),digB k,digB n,digB xs.length]++ids.map (tok (enc xs k n))).length) c4] ([(⟨#[100,101,99,111,100,101]⟩:ByteArray),digB k,digB n,digB xs.length]++ids.map (tok (enc xs k n))),Fz cQ] _:=H.freezeW 0 rfl
 refine qF 1 [(0,.P cb 0),(5,.slice a3 (([(⟨#[100,101,99,111,100,101]⟩:ByteArray),digB k,digB n,digB xs.length]++ids.map (tok (enc xs k n))).length) c4)] ?_
 refine qR 2 [.c [3,0,0],.c [3,0,1],.c [4]] [(0,.P cb 0),(5,.slice a3 (([(⟨#[100,101,99,111,100,101]⟩:ByteArray),digB k,digB n,digB xs.length]++ids.map (tok (enc xs k n))).length) c4)] ?_
 refine qG (sq 0 10) ?_
 refine qP 4 (sq 4 10) [(0,.P cb 0),(5,.slice a3 (([(⟨#[100,101,99,111,100,101]⟩:ByteArray),digB k,digB n,digB xs.length]++ids.map (tok (enc xs k n))).length) c4),(25,.bool (((([(⟨#[100,101,99,111,100,101]⟩:ByteArray),digB k,digB n,digB xs.length]++ids.map (tok (enc xs k n))).length:Nat):Int)==0))] ?_
 refine tE (fun b_=>[(0,.P cb 0),(5,.slice a3 (([(⟨#[100,101,99,111,100,101]⟩:ByteArray),digB k,digB n,digB xs.length]++ids.map (tok (enc xs k n))).length) c4),(25,.bool b_)]) ((([(⟨#[100,101,99,111,100,101]⟩:ByteArray),digB k,digB n,digB xs.length]++ids.map (tok (enc xs k n))).length:Nat):Int) 0 (fun h7=>?_) (fun h7=>?_)
 ·
  omega
 ·
  refine qP 1 (sq 5 10) [(0,.P cb 0),(5,.slice a3 (([(⟨#[100,101,99,111,100,101]⟩:ByteArray),digB k,digB n,digB xs.length]++ids.map (tok (enc xs k n))).length) c4),(25,.bool false),(26,.slice a3 (([(⟨#[100,101,99,111,100,101]⟩:ByteArray),digB k,digB n,digB xs.length]++ids.map (tok (enc xs k n))).length) c4)] ?_
  have hx8:0<([(⟨#[100,101,99,111,100,101]⟩:ByteArray),digB k,digB n,digB xs.length]++ids.map (tok (enc xs k n))).length:=by omega
  refine qX .seq 27 (sq 6 10) 22 9 0 Shape.str (⟨#[100,101,99,111,100,101]⟩:ByteArray) H 0 rfl 0 (by omega) (rfl) ?_
  intro b9 o10 es11 hr12 H
  obtain⟨rfl,hshr12⟩:=hr12
  have H:Hp w S O [(cb,.cells #[.bool true,x1,x2,.pointer none] 38 (0,0))] [] [Fc b9 o10 [.string (⟨#[100,101,99,111,100,101]⟩:ByteArray)],Rp (Shape.slice Shape.str) [.slice a3 (([(⟨#[100,101,99,111,100,101]⟩:ByteArray),digB k,digB n,digB xs.length]++ids.map (tok (enc xs k n))).length) c4] ([(⟨#[100,101,99,111,100,101]⟩:ByteArray),digB k,digB n,digB xs.length]++ids.map (tok (enc xs k n))),Fz cQ] _:=H
  refine qL .seq 28 (sq 7 10) 9 b9 o10 0 (.string (⟨#[100,101,99,111,100,101]⟩:ByteArray)) (H.fc 0 rfl) ?_
  refine RW.strAt (κ:=.seq) (d:=some 29) (r:=(sq 8 10)) (T:=9) (s:=(⟨#[100,101,99,111,100,101]⟩:ByteArray)) (k:=.i64) (t:=0) 0 (by as_aux_lemma=>kernel_rfl) (by as_aux_lemma=>kernel_rfl) (by omega) (by decide) ?_
  refine qF 2 [(0,.P cb 0),(5,.slice a3 (([(⟨#[100,101,99,111,100,101]⟩:ByteArray),digB k,digB n,digB xs.length]++ids.map (tok (enc xs k n))).length) c4),(31,.bool false)] ?_
  refine qR 3 [.c [4,0],.c [5]] [(0,.P cb 0),(5,.slice a3 (([(⟨#[100,101,99,111,100,101]⟩:ByteArray),digB k,digB n,digB xs.length]++ids.map (tok (enc xs k n))).length) c4)] ?_
  have H:=H.pick [1,2] rfl
  refine WK.draw1 10 [(1,.qui),(2,.qui),(3,.qui),(0,.chn),(4,.qui),(5,.qui),(6,.qui),(7,.qui),(8,.qui),(9,.qui)] [(1,.qui),(2,.qui),(3,.qui),(0,.chn),(4,.qui),(5,.qui),(6,.qui),(7,.qui),(8,.qui),(9,.qui)] Tryz_mixed (by as_aux_lemma=>kernel_rfl) (by as_aux_lemma=>kernel_rfl) (by as_aux_lemma=>kernel_rfl) ?_
  have H:=H.draw
  generalize({w1 with drawn:=w1.drawn+1}:World)=w13 at H⊢
  refine qP 1 [(2,.qui),(3,.qui),(0,.chn),(4,.qui),(5,.qui),(6,.qui),(7,.qui),(8,.qui),(9,.qui)] [(0,.P cb 0),(5,.slice a3 (([(⟨#[100,101,99,111,100,101]⟩:ByteArray),digB k,digB n,digB xs.length]++ids.map (tok (enc xs k n))).length) c4),(34,.slice a3 (([(⟨#[100,101,99,111,100,101]⟩:ByteArray),digB k,digB n,digB xs.length]++ids.map (tok (enc xs k n))).length) c4)] ?_
  have hx14:0<([(⟨#[100,101,99,111,100,101]⟩:ByteArray),digB k,digB n,digB xs.length]++ids.map (tok (enc xs k n))).length:=by omega
  refine qX .qui 35 [(3,.qui),(0,.chn),(4,.qui),(5,.qui),(6,.qui),(7,.qui),(8,.qui),(9,.qui)] 22 9 0 Shape.str (⟨#[100,101,99,111,100,101]⟩:ByteArray) H 0 rfl 0 (by omega) (rfl) ?_
  intro b15 o16 es17 hr18 H
  obtain⟨rfl,hshr18⟩:=hr18
  have H:Hp w S O [(cb,.cells #[.bool true,x1,x2,.pointer none] 38 (0,0))] [] [Fc b15 o16 [.string (⟨#[100,101,99,111,100,101]⟩:ByteArray)],Rp (Shape.slice Shape.str) [.slice a3 (([(⟨#[100,101,99,111,100,101]⟩:ByteArray),digB k,digB n,digB xs.length]++ids.map (tok (enc xs k n))).length) c4] ([(⟨#[100,101,99,111,100,101]⟩:ByteArray),digB k,digB n,digB xs.length]++ids.map (tok (enc xs k n))),Fz cQ] _:=H
  refine qL .qui 36 [(0,.chn),(4,.qui),(5,.qui),(6,.qui),(7,.qui),(8,.qui),(9,.qui)] 9 b15 o16 0 (.string (⟨#[100,101,99,111,100,101]⟩:ByteArray)) (H.fc 0 rfl) ?_
  refine qK .chn (some 33) (qs [4,5,6,7,8,9]) 11 #[] (commands_spec (S:=Av S w O (idsOf [(cb,.cells #[.bool true,x1,x2,.pointer none] 38 (0,0))] []))) ?_
  rintro _ w19-⟨b20,rfl,H'⟩
  have H:=H.back (M1:=[]) (W1:=[]) H'
  have H:Hp w S O [(b20,mapO Value.string (fun v:Value=>v) cmdL16 16),(cb,.cells #[.bool true,x1,x2,.pointer none] 38 (0,0))] [] [Fc b15 o16 [.string (⟨#[100,101,99,111,100,101]⟩:ByteArray)],Rp (Shape.slice Shape.str) [.slice a3 (([(⟨#[100,101,99,111,100,101]⟩:ByteArray),digB k,digB n,digB xs.length]++ids.map (tok (enc xs k n))).length) c4] ([(⟨#[100,101,99,111,100,101]⟩:ByteArray),digB k,digB n,digB xs.length]++ids.map (tok (enc xs k n))),Fz cQ] _:=H
  refine RW.mapGet (κ:=.qui) (d:=some 37) (r:=(qs [5,6,7,8,9])) (T:=44) (mk:=Value.string) (vk:=(fun v:Value=>v)) (Kt:=9) (E:=42) (z:=(.nilFunc:Value)) (⟨#[100,101,99,111,100,101]⟩:ByteArray) true (by as_aux_lemma=>kernel_rfl) H 0 rfl (KeyOk.str (by as_aux_lemma=>kernel_rfl)) (by as_aux_lemma=>kernel_rfl) (fun w_=>zeroE_run (by as_aux_lemma=>kernel_rfl) w_) ?_
  refine qF 5 [(0,.P cb 0),(5,.slice a3 (([(⟨#[100,101,99,111,100,101]⟩:ByteArray),digB k,digB n,digB xs.length]++ids.map (tok (enc xs k n))).length) c4),(6,.func (.func 16) #[] #[]),(7,.bool true)] ?_
  refine qR 6 [.c [6,0],.c [7]] [(0,.P cb 0),(5,.slice a3 (([(⟨#[100,101,99,111,100,101]⟩:ByteArray),digB k,digB n,digB xs.length]++ids.map (tok (enc xs k n))).length) c4),(6,.func (.func 16) #[] #[])] ?_
  have H:=H.dropM 0
  have H:=H.pick [1,2] rfl
  refine qG (sq 0 10) ?_
  refine qP 3 (sq 3 10) [(44,.func (.func 16) #[] #[]),(45,.P cb 0),(46,.slice a3 (([(⟨#[100,101,99,111,100,101]⟩:ByteArray),digB k,digB n,digB xs.length]++ids.map (tok (enc xs k n))).length) c4)] ?_
  refine RW.slice (κ:=.seq) (d:=some 47) (r:=(sq 4 10)) (T:=22) (e:=9) (sh:=Shape.str) (a:=a3) (len:=(([(⟨#[100,101,99,111,100,101]⟩:ByteArray),digB k,digB n,digB xs.length]++ids.map (tok (enc xs k n))).length)) (cap:=c4) (zs:=([digB k,digB n,digB xs.length]++ids.map (tok (enc xs k n)))) (lv:=(some (.I 1))) (hv:=none) (by as_aux_lemma=>kernel_rfl) (by as_aux_lemma=>kernel_rfl) H 0 rfl 1 (([(⟨#[100,101,99,111,100,101]⟩:ByteArray),digB k,digB n,digB xs.length]++ids.map (tok (enc xs k n))).length) (.mk (by omega)) .nil (by omega) (by omega) (by rw[List.take_of_length_le (Nat.le_refl _)];rfl) ?_
  intro a21 H
  refine qK .seq (some 48) (sq 5 10) 16 #[.P cb 0,.slice a21 (([digB k,digB n,digB xs.length]++ids.map (tok (enc xs k n))).length) (c4-1)] (decode_spec (S:=Av S w O (idsOf [(cb,.cells #[.bool true,x1,x2,.pointer none] 38 (0,0))] [])) (H.rp 0 rfl) hk hkn hn hxl hid hnd hki hi9 (H.fact 2 rfl)) ?_
  rintro _ w22 hE23 rfl
  have H:=H.ext hE23
  refine qF 5 [(8,.string (hexB xs++(⟨#[10]⟩:ByteArray))),(9,.nilIface)] ?_
  refine qR 1 [.c [7,0],.c [8]] [(8,.string (hexB xs++(⟨#[10]⟩:ByteArray))),(9,.nilIface)] ?_
  have H:=H.pick [2] rfl
  refine qG (sq 0 1) ?_
  refine qB .seq 10 (sq 1 1) #[.I 0] 46 H ?_
  intro b24 w25 H
  refine qF 0 [(8,.string (hexB xs++(⟨#[10]⟩:ByteArray))),(9,.nilIface),(10,.P b24 0)] ?_
  refine qR 2 [.c [8,0,0],.c [8,0,1],.c [9]] [(8,.string (hexB xs++(⟨#[10]⟩:ByteArray))),(9,.nilIface),(10,.P b24 0)] ?_
  refine qG (sq 0 3) ?_
  refine qP 2 (sq 2 3) [(8,.string (hexB xs++(⟨#[10]⟩:ByteArray))),(10,.P b24 0),(51,.nilIface),(52,.iface 52 (.P b24 0))] ?_
  refine qK .seq (some 53) (sq 3 3) 13 #[.nilIface,.iface 52 (.P b24 0)] (as_nil (S:=fun _=>True)) ?_
  rintro _ w26 hE27 rfl
  have H:=H.ext hE27
  refine qF 0 [(8,.string (hexB xs++(⟨#[10]⟩:ByteArray))),(10,.P b24 0),(53,.bool false)] ?_
  refine qR 4 [.c [10]] [(4,.string (hexB xs++(⟨#[10]⟩:ByteArray)))] ?_
  refine qT (.string (hexB xs++(⟨#[10]⟩:ByteArray))) Tryz.func7 ?_
  have H:=H.frontM 1 (M':=[(cb,.cells #[.bool true,x1,x2,.pointer none] 38 (0,0)),(b24,.cells #[.I 0] 46 (0,0))]) rfl
  have H:=H.drop (M':=[(cb,.cells #[.bool true,x1,x2,.pointer none] 38 (0,0))]) (W':=[]) (by repeat(first|exact List.Sublist.refl _|exact List.nil_sublist _|apply List.Sublist.cons_cons|apply List.Sublist.cons)) (by repeat(first|exact List.Sublist.refl _|exact List.nil_sublist _|apply List.Sublist.cons_cons|apply List.Sublist.cons))
  exact⟨_,rfl,rfl,H.pick [] rfl⟩
end Go.Proofs.YtcafjhnjhhicdaaGreatDoor
