import Derived.Test.YtppcdmbkgficiaaSBxA
import Derived.Test.YtppcdmbkgficiaaSW6
namespace Go.Proofs.Ytppcdmbkgficiaa
open Go.BX
def hW0 : Wr := beginW 1 1 ⟨#[97]⟩ [1#8, 2#8] 1 2 ⟨0, 3, [1, 2], 0⟩ 10
theorem hW_len : (msgsOf hW0).length = 2 := by kernel_rfl
def hM (i : Nat) : Msg := (msgsOf hW0).getD i (prepOf hW0 0)
set_option maxHeartbeats 4000000 in
theorem heads_spec {S : Nat → Prop} {w : World}  :
 Calls Try.prog 22 #[] w (Ret fun v w' => Ext w w' ∧ v = .bool true) := by
 have a9 : hW0.heads.length = 2 := by kernel_rfl
 refine uS1 Try.func22 ?_
 have H := Hp.startF (w := w) (S := S) (G := []) .nil
 refine uR 3 [.c [1, 0], .c [2]] ?_
 refine qG (sq 0 12) ?_
 refine RW.new (κ := .seq) (d := some 11) (r := (sq 1 12)) (o := .cells #[.int .u8 1, .int .u8 2] 5 (0, 0)) (v := fun b => .slice (some ⟨b, 0, none⟩) 2 2) (fun b => by as_aux_lemma => kernel_rfl) (nofun) H ?_
 intro b1 _ H
 refine RW.new (κ := .seq) (d := some 12) (r := (sq 2 12)) (o := .cells #[.I 1, .I 2] 3 (0, 0)) (v := fun b => .slice (some ⟨b, 0, none⟩) 2 2) (fun b => by as_aux_lemma => kernel_rfl) (nofun) H ?_
 intro b3 _ H
 refine uP 1 ?_
 have H := H.freeze 1 rfl Sb ([1#8, 2#8] : List (BitVec 8)) 2 (by simp [maxLen]) (by first | exact Nat.le_refl _ | simp) (EsP.cons (c := [.int .u8 1]) (Shape.bv_lit (x := 1#8) (by decide)) (EsP.cons (c := [.int .u8 2]) (Shape.bv_lit (x := 2#8) (by decide)) EsP.nil))
 have H : Hp w S [] [(b3, .cells #[.I 1, .I 2] 3 (0, 0))] [] [Rp SB [.slice (some ⟨b1, 0, none⟩) 2 2] ([1#8, 2#8] : List (BitVec 8))] _ := H
 have H := H.freeze 0 rfl (Shape.int .i64) ([1, 2] : List Int) 2 (by simp [maxLen]) (by first | exact Nat.le_refl _ | simp) (EsP.cons (c := [.I 1]) (Shape.int_mk (by decide)) (EsP.cons (c := [.I 2]) (Shape.int_mk (by decide)) EsP.nil))
 have H : Hp w S [] [] [] [Rp (Shape.slice (Shape.int .i64)) [.slice (some ⟨b3, 0, none⟩) 2 2] ([1, 2] : List Int), _] _ := H
 refine uK (begin_ok (xs := ([1#8, 2#8] : List (BitVec 8))) (R := ⟨0, 3, ([1, 2] : List Int), 0⟩) 1 1 (⟨#[97]⟩) (H.rp 1 rfl) (res_mk (Shape.int_mk (by decide)) (Shape.int_mk (by decide)) (H.rp 0 rfl) (Shape.int_mk (by decide))) 10 (by first | assumption | decide | (simp [maxLen]; done)) (by omega) (by omega) 1 2 (by first | omega | (simp; done)) (by omega) (by omega) (by omega) (by first | rfl | omega) (by omega)) ?_
 rintro _ _ a0 ⟨Y8, a7, c8, rfl, b0, P7⟩
 have a := H
 replace b0 : wrS.rep _ _ Y8 hW0 := b0
 obtain ⟨k0, l0, m0, n0, o0, p0, q0, r0, rfl, _, _, _, Q7, R7, S7, T7, _, _, _⟩ := wr_open b0
 have H := H.addM a0 P7
 have H := H.addO a a0 Q7
 have H := H.addO a a0 R7
 have H := H.addO a a0 S7
 have H := H.addO a a0 T7
 refine uP 4 ?_
 refine uC ((wrZ).toArray) 32 H ?_
 intro s0 _ H
 refine uW 32 0 (wrV hW0 k0 l0 m0 n0 o0 p0 q0 r0).toArray H 0 rfl ?_
 intro _ H
 refine uF 2 ?_
 refine uR 2 [.c [2, 0, 0], .c [2, 0, 1], .c [3]] ?_
 have H := H.pick [0, 1, 2, 3, 4] rfl
 refine qG (sq 0 14) ?_
 refine uP 8 ?_
 refine uN 25 (((msgsOf hW0).length : Nat) : Int) 2 (fun N7 => ?_) (fun N7 => ?_)
 ·
  exact absurd (congrArg (fun q : Nat => (q : Int)) hW_len) N7
 ·
  refine uP 1 ?_
  have U7 : 1 < (msgsOf hW0).length := by rw [hW_len]; omega
  refine uX 33 1 H 4 rfl 1 (by omega) (List.getElem?_eq_getElem U7) ?_
  intro _ _ _ V7 H
  obtain ⟨_, _, _, _, _, _, _, _, rfl, _, _, _, _, _, _, _, _, W7, X7, Y7, Z7, _, _, _, _, _, a8⟩ := msg_open V7
  obtain ⟨_, _, _, _, rfl, b8, hf53⟩ := conf_open X7
  obtain ⟨_, rfl, d8, _, _, _⟩ := hdr_open Y7
  obtain ⟨rfl, _, _, _⟩ := cid_open d8
  have H := H.addR W7
  have H := H.addR b8
  have H := H.addR hf53
  have H := H.addR Z7
  have H := H.addR a8
  refine uP 1 ?_
  refine uV 3 2 (H.fc 5 rfl) ?_
  refine uF 2 ?_
  refine qN (((msgsOf hW0)[1]).to) 2 (fun O7 => ?_) (fun O7 => ?_)
  ·
   exact absurd (by kernel_rfl) O7
  ·
   refine uR 2 [.c [3, 0], .c [4]] ?_
   have H := H.pick [6, 7, 8, 9, 10] rfl
   refine WK.drawH1 [] (.node (qs [0, 1, 2, 3, 4, 5]) (.cons 6 (.leaf [(7, .qui), (8, .qui), (9, .qui), (10, .seq), (11, .seq), (12, .qui)]) (.cons 10 (.leaf [(6, .seq), (7, .qui), (8, .qui), (9, .qui), (11, .seq), (12, .qui)]) .nil))) Try_mixed (by as_aux_lemma => kernel_rfl) (by as_aux_lemma => kernel_rfl) ?_
   intro Z8 j1
   have H := H.draw
   rw [← j1] at H
   clear j1
   have hS := Chg.refl Z8 []
   refine RG.node' (qs [0, 1, 2, 3, 4, 5]) (by as_aux_lemma => kernel_rfl) ?_
   refine uHV 32 0 hS (H.cells 0 rfl) nq0 ?_
   refine qHP hS 1 (qs [2, 3, 4, 5]) [(1, .P s0 0), (2, .slice a7 (msgsOf hW0).length c8), (33, .agg (wrV hW0 k0 l0 m0 n0 o0 p0 q0 r0).toArray), (34, .slice a7 (msgsOf hW0).length c8)] ?_
   have e8 : 0 < (msgsOf hW0).length := by rw [hW_len]; omega
   refine uHX 33 0 hS H 4 rfl 0 (by omega) (List.getElem?_eq_getElem e8) ?_
   intro _ _ _ f8 H
   obtain ⟨_, _, _, _, _, _, _, _, rfl, _, _, _, _, _, _, _, _, g8, h8, i8, j8, _, _, _, _, _, k8⟩ := msg_open f8
   obtain ⟨_, _, _, _, rfl, l8, m8⟩ := conf_open h8
   obtain ⟨_, rfl, n8, _, _, _⟩ := hdr_open i8
   obtain ⟨rfl, _, _, _⟩ := cid_open n8
   have H := H.addR g8
   have H := H.addR l8
   have H := H.addR m8
   have H := H.addR j8
   have H := H.addR k8
   refine uHP hS 1 ?_
   refine uHV 53 13 hS (H.fc 5 rfl) nq0 ?_
   refine uHB hS 1 ?_
   refine (RGB.cons' ?_ (RGB.cons' ?_ RGB.nil'))
   ·
    refine RG.leaf' [(6, .seq), (7, .qui), (8, .qui), (9, .qui), (10, .seq), (11, .seq), (12, .qui)] (by as_aux_lemma => kernel_rfl) ?_
    have Hr := H
    refine RH.chn hS ?_
    -- call
    refine uK (got_spec (W := hW0) (wr_mkV u64a u64a ⟨rfl, by first | assumption | (simp [maxLen]; done) | decide⟩ (H.rp 9 rfl) (H.rp 8 rfl) (H.rp 7 rfl) (H.rp 6 rfl) i64a i64a i64a) 10 1 (⟨((((msgsOf hW0)[0]).head).id), (((msgsOf hW0)[0]).head).kk, (((msgsOf hW0)[0]).head).nn, (((msgsOf hW0)[0]).head).size, (((msgsOf hW0)[0]).head).sum⟩) true (.I 0) (.int .u64 0) (.int .u64 0) (.int .u64 0) (.int .u64 0) (.int .u64 0) (.bool false) (.slice none 0 0) (.slice none 0 0) (.slice none 0 0) (.slice none 0 0) (.int .u64 0) (.int .u64 0) (.I 0) (.string (⟨#[]⟩)) (.I 0) (.slice none 0 0) (by first | assumption | omega)) ?_
    rintro _ _ s ⟨_, c0, p, rfl, W4, f⟩
    have a := H
    obtain ⟨k1, l1, m1, n1, o1, p1, q1, r1, rfl, _, _, _, X4, Y4, Z4, a5, _, _, _⟩ := wr_open W4
    have H := H.addM s X4
    have H := H.addO a s Y4
    have H := H.addO a s Z4
    have H := H.addO a s a5
    have N0 := gotOf_keep f
    have K8 := congrArg List.length N0.1
    intro hS
    refine uHP hS 3 ?_
    refine RH.chn hS ?_
    refine RW.newC (κ := .chn) (d := some 4) (r := []) (o := .cells (wrZ).toArray 32 (0, 0)) (v := fun b => .P b 0) (fun b => by as_aux_lemma => kernel_rfl) (nofun) H ?_
    intro _ _ s1 H
    have t1 := Nat.le_trans hS.size s1
    intro hS
    refine RH.sto ?_
    refine uWC 32 0 (wrV c0 k1 l1 m1 n1 o1 p1 q1 r1).toArray H 0 rfl ?_
    intro _ u1 H
    have t0 := hS.sto u1 (.inl t1)
    refine ⟨t0, ?_⟩
    have hS := t0
    refine uHF hS 1 ?_
    refine uR 1 [.c [4, 0], .c [5]] ?_
    have H := H.pick [0, 1, 2, 3, 10, 11, 12, 13, 14] rfl
    refine WK.drawH1 [] (.node (qs [0, 1, 2, 3, 4, 5]) (.cons 6 (.leaf [(7, .qui), (8, .qui), (9, .qui), (10, .seq), (11, .seq), (12, .qui)]) (.cons 10 (.leaf [(6, .seq), (7, .qui), (8, .qui), (9, .qui), (11, .seq), (12, .qui)]) .nil))) Try_mixed (by as_aux_lemma => kernel_rfl) (by as_aux_lemma => kernel_rfl) ?_
    intro o8 u0
    have H := H.draw
    rw [← u0] at H
    clear u0
    have hS := Chg.refl o8 []
    refine RG.node' (qs [0, 1, 2, 3, 4, 5]) (by as_aux_lemma => kernel_rfl) ?_
    refine uHV 32 0 hS (H.cells 0 rfl) nq0 ?_
    refine uHP hS 1 ?_
    have b5 : 1 < (msgsOf hW0).length := by rw [hW_len]; omega
    refine uHX 33 1 hS H 8 rfl 1 (by omega) (List.getElem?_eq_getElem b5) ?_
    intro _ _ _ c5 H
    obtain ⟨_, _, _, _, _, _, _, _, rfl, _, _, _, _, _, _, _, _, d5, e5, f5, g5, _, _, _, _, _, h5⟩ := msg_open c5
    obtain ⟨_, _, _, _, rfl, i5, j5⟩ := conf_open e5
    obtain ⟨_, rfl, k5, _, _, _⟩ := hdr_open f5
    obtain ⟨rfl, _, _, _⟩ := cid_open k5
    have H := H.addR d5
    have H := H.addR i5
    have H := H.addR j5
    have H := H.addR g5
    have H := H.addR h5
    refine uHP hS 1 ?_
    refine uHV 53 13 hS (H.fc 5 rfl) nq0 ?_
    refine uHB hS 1 ?_
    refine (RGB.cons' ?_ (RGB.cons' ?_ RGB.nil'))
    ·
     refine RG.leaf' [(6, .seq), (7, .qui), (8, .qui), (9, .qui), (10, .seq), (11, .seq), (12, .qui)] (by as_aux_lemma => kernel_rfl) ?_
     have Hr := H
     refine RH.chn hS ?_
     -- call
     refine uK (got_spec (W := c0) (wr_mkV u64a u64a ⟨rfl, by first | assumption | (simp [maxLen]; done) | decide⟩ (H.rp 9 rfl) (H.rp 8 rfl) (H.rp 7 rfl) (H.rp 6 rfl) i64a i64a i64a) 10 2 (⟨((((msgsOf hW0)[1]).head).id), (((msgsOf hW0)[1]).head).kk, (((msgsOf hW0)[1]).head).nn, (((msgsOf hW0)[1]).head).size, (((msgsOf hW0)[1]).head).sum⟩) true (.I 0) (.int .u64 0) (.int .u64 0) (.int .u64 0) (.int .u64 0) (.int .u64 0) (.bool false) (.slice none 0 0) (.slice none 0 0) (.slice none 0 0) (.slice none 0 0) (.int .u64 0) (.int .u64 0) (.I 0) (.string (⟨#[]⟩)) (.I 0) (.slice none 0 0) (by first | assumption | omega)) ?_
     rintro _ _ t ⟨_, d0, Y, rfl, l5, i⟩
     have a := H
     obtain ⟨v1, w1, x1, y1, z1, A1, B1, C1, rfl, _, _, _, m5, n5, o5, p5, _, _, _⟩ := wr_open l5
     have H := H.addM t m5
     have H := H.addO a t n5
     have H := H.addO a t o5
     have H := H.addO a t p5
     have O0 := gotOf_keep i
     have L8 := congrArg List.length O0.1
     intro hS
     refine uHP hS 3 ?_
     refine RH.chn hS ?_
     refine RW.newC (κ := .chn) (d := some 6) (r := []) (o := .cells (wrZ).toArray 32 (0, 0)) (v := fun b => .P b 0) (fun b => by as_aux_lemma => kernel_rfl) (nofun) H ?_
     intro D1 _ E1 H
     have F1 := Nat.le_trans hS.size E1
     intro hS
     refine RH.sto ?_
     refine uWC 32 0 (wrV d0 v1 w1 x1 y1 z1 A1 B1 C1).toArray H 0 rfl ?_
     intro _ G1 H
     have v0 := hS.sto G1 (.inl F1)
     refine ⟨v0, ?_⟩
     have hS := v0
     refine uHF hS 1 ?_
     refine qR 1 [.c [5, 0], .c [6]] [(1, .P s0 0), (2, .slice a7 (msgsOf hW0).length c8), (5, .I p), (6, .P D1 0), (7, .I Y)] ?_
     have H := H.dropM 1
     have H := H.pick [0, 1, 2, 3, 14, 15, 16, 17, 18] rfl
     refine WK.drawH1 [] (.node (qs [0, 1, 2, 3, 4, 5]) (.cons 6 (.leaf [(7, .qui), (8, .qui), (9, .qui), (10, .seq), (11, .seq), (12, .qui)]) (.cons 10 (.leaf [(6, .seq), (7, .qui), (8, .qui), (9, .qui), (11, .seq), (12, .qui)]) .nil))) Try_mixed (by as_aux_lemma => kernel_rfl) (by as_aux_lemma => kernel_rfl) ?_
     intro p8 w0
     have H := H.draw
     rw [← w0] at H
     clear w0
     have hS := Chg.refl p8 []
     refine RG.node' (qs [0, 1, 2, 3, 4, 5]) (by as_aux_lemma => kernel_rfl) ?_
     refine uHV 32 0 hS (H.cells 1 rfl) nq0 ?_
     refine uHP hS 1 ?_
     have q5 : 1 < (msgsOf hW0).length := by rw [hW_len]; omega
     refine uHX 33 1 hS H 8 rfl 1 (by omega) (List.getElem?_eq_getElem q5) ?_
     intro _ _ _ r5 H
     obtain ⟨_, _, _, _, _, _, _, _, rfl, _, _, _, _, _, _, _, _, s5, t5, u5, v5, _, _, _, _, _, x5⟩ := msg_open r5
     obtain ⟨_, _, _, _, rfl, y5, z5⟩ := conf_open t5
     obtain ⟨_, rfl, A5, _, _, _⟩ := hdr_open u5
     obtain ⟨rfl, _, _, _⟩ := cid_open A5
     have H := H.addR s5
     have H := H.addR y5
     have H := H.addR z5
     have H := H.addR v5
     have H := H.addR x5
     refine uHP hS 1 ?_
     refine uHV 53 13 hS (H.fc 5 rfl) nq0 ?_
     refine uHB hS 1 ?_
     refine (RGB.cons' ?_ (RGB.cons' ?_ RGB.nil'))
     ·
      refine RG.leaf' [(6, .seq), (7, .qui), (8, .qui), (9, .qui), (10, .seq), (11, .seq), (12, .qui)] (by as_aux_lemma => kernel_rfl) ?_
      have Hr := H
      refine RH.chn hS ?_
      -- call
      refine uK (got_spec (W := hW0) (wr_mkV u64a u64a ⟨rfl, by first | assumption | (simp [maxLen]; done) | decide⟩ (H.rp 13 rfl) (H.rp 12 rfl) (H.rp 11 rfl) (H.rp 10 rfl) i64a i64a i64a) 10 2 (⟨((((msgsOf hW0)[1]).head).id), (((msgsOf hW0)[1]).head).kk, (((msgsOf hW0)[1]).head).nn, (((msgsOf hW0)[1]).head).size, (((msgsOf hW0)[1]).head).sum⟩) false (.I 0) (.int .u64 0) (.int .u64 0) (.int .u64 0) (.int .u64 0) (.int .u64 0) (.bool false) (.slice none 0 0) (.slice none 0 0) (.slice none 0 0) (.slice none 0 0) (.int .u64 0) (.int .u64 0) (.I 0) (.string (⟨#[]⟩)) (.I 0) (.slice none 0 0) (by first | assumption | omega)) ?_
      rintro _ _ u ⟨_, q8, r8, rfl, B5, M⟩
      have a := H
      obtain ⟨H1, I1, J1, K1, L1, M1, N1, O1, rfl, _, _, _, C5, D5, E5, F5, _, _, _⟩ := wr_open B5
      have H := H.addM u C5
      have H := H.addO a u D5
      have H := H.addO a u E5
      have H := H.addO a u F5
      have P0 := gotOf_keep M
      have M8 := congrArg List.length P0.1
      intro hS
      refine uHP hS 3 ?_
      refine RH.chn hS ?_
      refine RW.newC (κ := .chn) (d := some 8) (r := []) (o := .cells (wrZ).toArray 32 (0, 0)) (v := fun b => .P b 0) (fun b => by as_aux_lemma => kernel_rfl) (nofun) H ?_
      intro _ _ P1 H
      have Q1 := Nat.le_trans hS.size P1
      intro hS
      refine RH.sto ?_
      refine uWC 32 0 (wrV q8 H1 I1 J1 K1 L1 M1 N1 O1).toArray H 0 rfl ?_
      intro _ R1 H
      have x0 := hS.sto R1 (.inl Q1)
      refine ⟨x0, ?_⟩
      have hS := x0
      refine uHF hS 1 ?_
      refine uR 1 [.c [6, 0], .c [7]] ?_
      have H := H.dropM 2
      have H := H.dropM 0
      have H := H.pick [10, 11, 12, 13] rfl
      refine qG (sq 0 17) ?_
      refine uP 3 ?_
      refine uE 64 p 0 (fun S1 => ?_) (fun S1 => ?_)
      ·
       refine uP 4 ?_
       refine uE 68 Y 1 (fun T1 => ?_) (fun T1 => ?_)
       ·
        refine uP 4 ?_
        refine uE 72 r8 2 (fun U1 => ?_) (fun U1 => ?_)
        ·
         refine uV 32 0 (H.cells 0 rfl) ?_
         -- call
         refine uK (settle_spec (W := d0) (wr_mkV u64a u64a ⟨rfl, by first | assumption | (simp [maxLen]; done) | decide⟩ (H.rp 3 rfl) (H.rp 2 rfl) (H.rp 1 rfl) (H.rp 0 rfl) i64a i64a i64a) (by first | assumption | omega)) ?_
         rintro _ _ G5 ⟨_, _, V1, rfl, H5, Q0⟩
         have a := H
         have H := H.addM G5 H5
         refine uF 4 ?_
         refine qT (.bool (((V1.length : Nat) : Int) == 2)) Try.func22 ?_
         have e := congrArg Prod.fst f
         simp only [] at e
         have h := congrArg Prod.fst i
         simp only [] at h
         rw [e] at h
         have m : V1.length = 2 := by rw [Q0, h]; kernel_rfl
         refine ⟨_, rfl, H.done, ?_⟩
         rw [m]; rfl
        ·
         exact absurd ((congrArg Prod.snd M).trans (by kernel_rfl) : _ = (2 : Int)) U1
       ·
        have e := congrArg Prod.fst f
        simp only [] at e
        rw [e] at i
        exact absurd ((congrArg Prod.snd i).trans (by kernel_rfl) : _ = (1 : Int)) T1
      ·
       exact absurd ((congrArg Prod.snd f).trans (by kernel_rfl) : _ = (0 : Int)) S1
     ·
      refine RG.leaf' [(10, .seq), (6, .seq), (7, .qui), (8, .qui), (9, .qui), (11, .seq), (12, .qui)] (by as_aux_lemma => kernel_rfl) ?_
      have Hr := H
      refine RH.chn hS ?_
      refine RW.newC (κ := .chn) (d := some 8) (r := []) (o := .cells (wrZ).toArray 32 (0, 0)) (v := fun b => .P b 0) (fun b => by as_aux_lemma => kernel_rfl) (nofun) H ?_
      intro _ _ W1 H
      have X1 := Nat.le_trans hS.size W1
      intro hS
      refine RH.chn hS ?_
      -- call
      refine uK (got_spec (W := hW0) (wr_mkV u64a u64a ⟨rfl, by first | assumption | (simp [maxLen]; done) | decide⟩ (H.rp 13 rfl) (H.rp 12 rfl) (H.rp 11 rfl) (H.rp 10 rfl) i64a i64a i64a) 10 2 (⟨((((msgsOf hW0)[1]).head).id), (((msgsOf hW0)[1]).head).kk, (((msgsOf hW0)[1]).head).nn, (((msgsOf hW0)[1]).head).size, (((msgsOf hW0)[1]).head).sum⟩) false (.I 0) (.int .u64 0) (.int .u64 0) (.int .u64 0) (.int .u64 0) (.int .u64 0) (.bool false) (.slice none 0 0) (.slice none 0 0) (.slice none 0 0) (.slice none 0 0) (.int .u64 0) (.int .u64 0) (.I 0) (.string (⟨#[]⟩)) (.I 0) (.slice none 0 0) (by first | assumption | omega)) ?_
      rintro _ _ y ⟨_, s8, Y1, rfl, I5, N⟩
      have a := H
      obtain ⟨Z1, a2, b2, c2, d2, e2, f2, g2, rfl, _, _, _, J5, K5, L5, M5, _, _, _⟩ := wr_open I5
      have H := H.addM y J5
      have H := H.addO a y K5
      have H := H.addO a y L5
      have H := H.addO a y M5
      have R0 := gotOf_keep N
      have N8 := congrArg List.length R0.1
      intro hS
      refine uHP hS 3 ?_
      refine RH.sto ?_
      refine uWC 32 0 (wrV s8 Z1 a2 b2 c2 d2 e2 f2 g2).toArray H 0 rfl ?_
      intro _ h2 H
      have y0 := hS.sto h2 (.inl X1)
      refine ⟨y0, ?_⟩
      have hS := y0
      refine uHF hS 1 ?_
      refine uR 1 [.c [6, 0], .c [7]] ?_
      have H := H.dropM 2
      have H := H.dropM 0
      have H := H.pick [10, 11, 12, 13] rfl
      refine qG (sq 0 17) ?_
      refine qP 3 (sq 3 17) [(6, .P D1 0), (7, .I Y), (9, .I Y1), (64, .bool (p == 0))] ?_
      refine uE 64 p 0 (fun i2 => ?_) (fun i2 => ?_)
      ·
       refine uP 4 ?_
       refine uE 68 Y 1 (fun j2 => ?_) (fun j2 => ?_)
       ·
        refine uP 4 ?_
        refine uE 72 Y1 2 (fun k2 => ?_) (fun k2 => ?_)
        ·
         refine uV 32 0 (H.cells 0 rfl) ?_
         -- call
         refine uK (settle_spec (W := d0) (wr_mkV u64a u64a ⟨rfl, by first | assumption | (simp [maxLen]; done) | decide⟩ (H.rp 3 rfl) (H.rp 2 rfl) (H.rp 1 rfl) (H.rp 0 rfl) i64a i64a i64a) (by first | assumption | omega)) ?_
         rintro _ _ N5 ⟨_, _, l2, rfl, O5, S0⟩
         have a := H
         have H := H.addM N5 O5
         refine uF 4 ?_
         refine qT (.bool (((l2.length : Nat) : Int) == 2)) Try.func22 ?_
         have e := congrArg Prod.fst f
         simp only [] at e
         have h := congrArg Prod.fst i
         simp only [] at h
         rw [e] at h
         have m : l2.length = 2 := by rw [S0, h]; kernel_rfl
         refine ⟨_, rfl, H.done, ?_⟩
         rw [m]; rfl
        ·
         exact absurd ((congrArg Prod.snd N).trans (by kernel_rfl) : _ = (2 : Int)) k2
       ·
        have e := congrArg Prod.fst f
        simp only [] at e
        rw [e] at i
        exact absurd ((congrArg Prod.snd i).trans (by kernel_rfl) : _ = (1 : Int)) j2
      ·
       exact absurd ((congrArg Prod.snd f).trans (by kernel_rfl) : _ = (0 : Int)) i2
    ·
     refine RG.leaf' [(10, .seq), (6, .seq), (7, .qui), (8, .qui), (9, .qui), (11, .seq), (12, .qui)] (by as_aux_lemma => kernel_rfl) ?_
     have Hr := H
     refine RH.chn hS ?_
     refine RW.newC (κ := .chn) (d := some 6) (r := []) (o := .cells (wrZ).toArray 32 (0, 0)) (v := fun b => .P b 0) (fun b => by as_aux_lemma => kernel_rfl) (nofun) H ?_
     intro t8 _ m2 H
     have n2 := Nat.le_trans hS.size m2
     intro hS
     refine RH.chn hS ?_
     -- call
     refine uK (got_spec (W := c0) (wr_mkV u64a u64a ⟨rfl, by first | assumption | (simp [maxLen]; done) | decide⟩ (H.rp 9 rfl) (H.rp 8 rfl) (H.rp 7 rfl) (H.rp 6 rfl) i64a i64a i64a) 10 2 (⟨((((msgsOf hW0)[1]).head).id), (((msgsOf hW0)[1]).head).kk, (((msgsOf hW0)[1]).head).nn, (((msgsOf hW0)[1]).head).size, (((msgsOf hW0)[1]).head).sum⟩) true (.I 0) (.int .u64 0) (.int .u64 0) (.int .u64 0) (.int .u64 0) (.int .u64 0) (.bool false) (.slice none 0 0) (.slice none 0 0) (.slice none 0 0) (.slice none 0 0) (.int .u64 0) (.int .u64 0) (.I 0) (.string (⟨#[]⟩)) (.I 0) (.slice none 0 0) (by first | assumption | omega)) ?_
     rintro _ _ z ⟨_, e0, f0, rfl, P5, j⟩
     have a := H
     obtain ⟨o2, p2, q2, r2, s2, t2, u2, v2, rfl, _, _, _, Q5, R5, S5, T5, _, _, _⟩ := wr_open P5
     have H := H.addM z Q5
     have H := H.addO a z R5
     have H := H.addO a z S5
     have H := H.addO a z T5
     have T0 := gotOf_keep j
     have O8 := congrArg List.length T0.1
     intro hS
     refine uHP hS 3 ?_
     refine RH.sto ?_
     refine uWC 32 0 (wrV e0 o2 p2 q2 r2 s2 t2 u2 v2).toArray H 0 rfl ?_
     intro _ x2 H
     have z0 := hS.sto x2 (.inl n2)
     refine ⟨z0, ?_⟩
     have hS := z0
     refine uHF hS 1 ?_
     refine uR 1 [.c [5, 0], .c [6]] ?_
     have H := H.dropM 1
     have H := H.pick [0, 1, 2, 3, 14, 15, 16, 17, 18] rfl
     refine WK.drawH1 [] (.node (qs [0, 1, 2, 3, 4, 5]) (.cons 6 (.leaf [(7, .qui), (8, .qui), (9, .qui), (10, .seq), (11, .seq), (12, .qui)]) (.cons 10 (.leaf [(6, .seq), (7, .qui), (8, .qui), (9, .qui), (11, .seq), (12, .qui)]) .nil))) Try_mixed (by as_aux_lemma => kernel_rfl) (by as_aux_lemma => kernel_rfl) ?_
     intro v8 A0
     have H := H.draw
     rw [← A0] at H
     clear A0
     have hS := Chg.refl v8 []
     refine RG.node' (qs [0, 1, 2, 3, 4, 5]) (by as_aux_lemma => kernel_rfl) ?_
     refine uHV 32 0 hS (H.cells 1 rfl) nq0 ?_
     refine uHP hS 1 ?_
     have U5 : 1 < (msgsOf hW0).length := by rw [hW_len]; omega
     refine uHX 33 1 hS H 8 rfl 1 (by omega) (List.getElem?_eq_getElem U5) ?_
     intro _ _ _ V5 H
     obtain ⟨_, _, _, _, _, _, _, _, rfl, _, _, _, _, _, _, _, _, W5, X5, Y5, Z5, _, _, _, _, _, a6⟩ := msg_open V5
     obtain ⟨_, _, _, _, rfl, b6, c6⟩ := conf_open X5
     obtain ⟨_, rfl, d6, _, _, _⟩ := hdr_open Y5
     obtain ⟨rfl, _, _, _⟩ := cid_open d6
     have H := H.addR W5
     have H := H.addR b6
     have H := H.addR c6
     have H := H.addR Z5
     have H := H.addR a6
     refine uHP hS 1 ?_
     refine uHV 53 13 hS (H.fc 5 rfl) nq0 ?_
     refine uHB hS 1 ?_
     refine (RGB.cons' ?_ (RGB.cons' ?_ RGB.nil'))
     ·
      refine RG.leaf' [(6, .seq), (7, .qui), (8, .qui), (9, .qui), (10, .seq), (11, .seq), (12, .qui)] (by as_aux_lemma => kernel_rfl) ?_
      have Hr := H
      refine RH.chn hS ?_
      -- call
      refine uK (got_spec (W := hW0) (wr_mkV u64a u64a ⟨rfl, by first | assumption | (simp [maxLen]; done) | decide⟩ (H.rp 13 rfl) (H.rp 12 rfl) (H.rp 11 rfl) (H.rp 10 rfl) i64a i64a i64a) 10 2 (⟨((((msgsOf hW0)[1]).head).id), (((msgsOf hW0)[1]).head).kk, (((msgsOf hW0)[1]).head).nn, (((msgsOf hW0)[1]).head).size, (((msgsOf hW0)[1]).head).sum⟩) false (.I 0) (.int .u64 0) (.int .u64 0) (.int .u64 0) (.int .u64 0) (.int .u64 0) (.bool false) (.slice none 0 0) (.slice none 0 0) (.slice none 0 0) (.slice none 0 0) (.int .u64 0) (.int .u64 0) (.I 0) (.string (⟨#[]⟩)) (.I 0) (.slice none 0 0) (by first | assumption | omega)) ?_
      rintro _ _ A ⟨_, w8, y2, rfl, e6, O⟩
      have a := H
      obtain ⟨z2, A2, B2, C2, D2, E2, F2, G2, rfl, _, _, _, f6, g6, h6, i6, _, _, _⟩ := wr_open e6
      have H := H.addM A f6
      have H := H.addO a A g6
      have H := H.addO a A h6
      have H := H.addO a A i6
      have U0 := gotOf_keep O
      have P8 := congrArg List.length U0.1
      intro hS
      refine uHP hS 3 ?_
      refine RH.chn hS ?_
      refine RW.newC (κ := .chn) (d := some 8) (r := []) (o := .cells (wrZ).toArray 32 (0, 0)) (v := fun b => .P b 0) (fun b => by as_aux_lemma => kernel_rfl) (nofun) H ?_
      intro _ _ H2 H
      have I2 := Nat.le_trans hS.size H2
      intro hS
      refine RH.sto ?_
      refine uWC 32 0 (wrV w8 z2 A2 B2 C2 D2 E2 F2 G2).toArray H 0 rfl ?_
      intro _ J2 H
      have B0 := hS.sto J2 (.inl I2)
      refine ⟨B0, ?_⟩
      have hS := B0
      refine uHF hS 1 ?_
      refine qR 1 [.c [6, 0], .c [7]] [(5, .I p), (6, .P t8 0), (7, .I f0), (9, .I y2)] ?_
      have H := H.dropM 2
      have H := H.dropM 0
      have H := H.pick [10, 11, 12, 13] rfl
      refine qG (sq 0 17) ?_
      refine uP 3 ?_
      refine uE 64 p 0 (fun K2 => ?_) (fun K2 => ?_)
      ·
       refine uP 4 ?_
       refine uE 68 f0 1 (fun L2 => ?_) (fun L2 => ?_)
       ·
        refine uP 4 ?_
        refine uE 72 y2 2 (fun M2 => ?_) (fun M2 => ?_)
        ·
         refine uV 32 0 (H.cells 0 rfl) ?_
         -- call
         refine uK (settle_spec (W := e0) (wr_mkV u64a u64a ⟨rfl, by first | assumption | (simp [maxLen]; done) | decide⟩ (H.rp 3 rfl) (H.rp 2 rfl) (H.rp 1 rfl) (H.rp 0 rfl) i64a i64a i64a) (by first | assumption | omega)) ?_
         rintro _ _ j6 ⟨_, _, N2, rfl, k6, V0⟩
         have a := H
         have H := H.addM j6 k6
         refine uF 4 ?_
         refine qT (.bool (((N2.length : Nat) : Int) == 2)) Try.func22 ?_
         have e := congrArg Prod.fst f
         simp only [] at e
         have h := congrArg Prod.fst j
         simp only [] at h
         rw [e] at h
         have m : N2.length = 2 := by rw [V0, h]; kernel_rfl
         refine ⟨_, rfl, H.done, ?_⟩
         rw [m]; rfl
        ·
         exact absurd ((congrArg Prod.snd O).trans (by kernel_rfl) : _ = (2 : Int)) M2
       ·
        have e := congrArg Prod.fst f
        simp only [] at e
        rw [e] at j
        exact absurd ((congrArg Prod.snd j).trans (by kernel_rfl) : _ = (1 : Int)) L2
      ·
       exact absurd ((congrArg Prod.snd f).trans (by kernel_rfl) : _ = (0 : Int)) K2
     ·
      refine RG.leaf' [(10, .seq), (6, .seq), (7, .qui), (8, .qui), (9, .qui), (11, .seq), (12, .qui)] (by as_aux_lemma => kernel_rfl) ?_
      have Hr := H
      refine RH.chn hS ?_
      refine RW.newC (κ := .chn) (d := some 8) (r := []) (o := .cells (wrZ).toArray 32 (0, 0)) (v := fun b => .P b 0) (fun b => by as_aux_lemma => kernel_rfl) (nofun) H ?_
      intro _ _ O2 H
      have P2 := Nat.le_trans hS.size O2
      intro hS
      refine RH.chn hS ?_
      -- call
      refine uK (got_spec (W := hW0) (wr_mkV u64a u64a ⟨rfl, by first | assumption | (simp [maxLen]; done) | decide⟩ (H.rp 13 rfl) (H.rp 12 rfl) (H.rp 11 rfl) (H.rp 10 rfl) i64a i64a i64a) 10 2 (⟨((((msgsOf hW0)[1]).head).id), (((msgsOf hW0)[1]).head).kk, (((msgsOf hW0)[1]).head).nn, (((msgsOf hW0)[1]).head).size, (((msgsOf hW0)[1]).head).sum⟩) false (.I 0) (.int .u64 0) (.int .u64 0) (.int .u64 0) (.int .u64 0) (.int .u64 0) (.bool false) (.slice none 0 0) (.slice none 0 0) (.slice none 0 0) (.slice none 0 0) (.int .u64 0) (.int .u64 0) (.I 0) (.string (⟨#[]⟩)) (.I 0) (.slice none 0 0) (by first | assumption | omega)) ?_
      rintro _ _ B ⟨_, x8, y8, rfl, l6, Q⟩
      have a := H
      obtain ⟨Q2, R2, S2, T2, U2, V2, W2, X2, rfl, _, _, _, m6, n6, o6, p6, _, _, _⟩ := wr_open l6
      have H := H.addM B m6
      have H := H.addO a B n6
      have H := H.addO a B o6
      have H := H.addO a B p6
      have W0 := gotOf_keep Q
      have Q8 := congrArg List.length W0.1
      intro hS
      refine uHP hS 3 ?_
      refine RH.sto ?_
      refine uWC 32 0 (wrV x8 Q2 R2 S2 T2 U2 V2 W2 X2).toArray H 0 rfl ?_
      intro _ Y2 H
      have C0 := hS.sto Y2 (.inl P2)
      refine ⟨C0, ?_⟩
      have hS := C0
      refine uHF hS 1 ?_
      refine uR 1 [.c [6, 0], .c [7]] ?_
      have H := H.dropM 2
      have H := H.dropM 0
      have H := H.pick [10, 11, 12, 13] rfl
      refine qG (sq 0 17) ?_
      refine uP 3 ?_
      refine uE 64 p 0 (fun Z2 => ?_) (fun Z2 => ?_)
      ·
       refine uP 4 ?_
       refine uE 68 f0 1 (fun a3 => ?_) (fun a3 => ?_)
       ·
        refine uP 4 ?_
        refine uE 72 y8 2 (fun h430 => ?_) (fun h430 => ?_)
        ·
         refine uV 32 0 (H.cells 0 rfl) ?_
         -- call
         refine uK (settle_spec (W := e0) (wr_mkV u64a u64a ⟨rfl, by first | assumption | (simp [maxLen]; done) | decide⟩ (H.rp 3 rfl) (H.rp 2 rfl) (H.rp 1 rfl) (H.rp 0 rfl) i64a i64a i64a) (by first | assumption | omega)) ?_
         rintro _ _ q6 ⟨_, _, c3, rfl, r6, X0⟩
         have a := H
         have H := H.addM q6 r6
         refine uF 4 ?_
         refine qT (.bool (((c3.length : Nat) : Int) == 2)) Try.func22 ?_
         have e := congrArg Prod.fst f
         simp only [] at e
         have h := congrArg Prod.fst j
         simp only [] at h
         rw [e] at h
         have m : c3.length = 2 := by rw [X0, h]; kernel_rfl
         refine ⟨_, rfl, H.done, ?_⟩
         rw [m]; rfl
        ·
         exact absurd ((congrArg Prod.snd Q).trans (by kernel_rfl) : _ = (2 : Int)) h430
       ·
        have e := congrArg Prod.fst f
        simp only [] at e
        rw [e] at j
        exact absurd ((congrArg Prod.snd j).trans (by kernel_rfl) : _ = (1 : Int)) a3
      ·
       exact absurd ((congrArg Prod.snd f).trans (by kernel_rfl) : _ = (0 : Int)) Z2
   ·
    refine RG.leaf' [(10, .seq), (6, .seq), (7, .qui), (8, .qui), (9, .qui), (11, .seq), (12, .qui)] (by as_aux_lemma => kernel_rfl) ?_
    have Hr := H
    refine RH.chn hS ?_
    refine RW.newC (κ := .chn) (d := some 4) (r := []) (o := .cells (wrZ).toArray 32 (0, 0)) (v := fun b => .P b 0) (fun b => by as_aux_lemma => kernel_rfl) (nofun) H ?_
    intro z8 _ d3 H
    have e3 := Nat.le_trans hS.size d3
    intro hS
    refine RH.chn hS ?_
    -- call
    refine uK (got_spec (W := hW0) (wr_mkV u64a u64a ⟨rfl, by first | assumption | (simp [maxLen]; done) | decide⟩ (H.rp 9 rfl) (H.rp 8 rfl) (H.rp 7 rfl) (H.rp 6 rfl) i64a i64a i64a) 10 1 (⟨((((msgsOf hW0)[0]).head).id), (((msgsOf hW0)[0]).head).kk, (((msgsOf hW0)[0]).head).nn, (((msgsOf hW0)[0]).head).size, (((msgsOf hW0)[0]).head).sum⟩) true (.I 0) (.int .u64 0) (.int .u64 0) (.int .u64 0) (.int .u64 0) (.int .u64 0) (.bool false) (.slice none 0 0) (.slice none 0 0) (.slice none 0 0) (.slice none 0 0) (.int .u64 0) (.int .u64 0) (.I 0) (.string (⟨#[]⟩)) (.I 0) (.slice none 0 0) (by first | assumption | omega)) ?_
    rintro _ _ C ⟨_, g0, n, rfl, s6, g⟩
    have a := H
    obtain ⟨f3, g3, h3, i3, j3, k3, l3, m3, rfl, _, _, _, t6, u6, v6, w6, _, _, _⟩ := wr_open s6
    have H := H.addM C t6
    have H := H.addO a C u6
    have H := H.addO a C v6
    have H := H.addO a C w6
    have Y0 := gotOf_keep g
    have R8 := congrArg List.length Y0.1
    intro hS
    refine uHP hS 3 ?_
    refine RH.sto ?_
    refine uWC 32 0 (wrV g0 f3 g3 h3 i3 j3 k3 l3 m3).toArray H 0 rfl ?_
    intro _ n3 H
    have D0 := hS.sto n3 (.inl e3)
    refine ⟨D0, ?_⟩
    have hS := D0
    refine uHF hS 1 ?_
    refine qR 1 [.c [4, 0], .c [5]] [(1, .P s0 0), (2, .slice a7 (msgsOf hW0).length c8), (4, .P z8 0), (5, .I n)] ?_
    have H := H.pick [0, 1, 2, 3, 10, 11, 12, 13, 14] rfl
    refine WK.drawH1 [] (.node (qs [0, 1, 2, 3, 4, 5]) (.cons 6 (.leaf [(7, .qui), (8, .qui), (9, .qui), (10, .seq), (11, .seq), (12, .qui)]) (.cons 10 (.leaf [(6, .seq), (7, .qui), (8, .qui), (9, .qui), (11, .seq), (12, .qui)]) .nil))) Try_mixed (by as_aux_lemma => kernel_rfl) (by as_aux_lemma => kernel_rfl) ?_
    intro A8 E0
    have H := H.draw
    rw [← E0] at H
    clear E0
    have hS := Chg.refl A8 []
    refine RG.node' (qs [0, 1, 2, 3, 4, 5]) (by as_aux_lemma => kernel_rfl) ?_
    refine uHV 32 0 hS (H.cells 0 rfl) nq0 ?_
    refine uHP hS 1 ?_
    have x6 : 1 < (msgsOf hW0).length := by rw [hW_len]; omega
    refine uHX 33 1 hS H 8 rfl 1 (by omega) (List.getElem?_eq_getElem x6) ?_
    intro _ _ _ y6 H
    obtain ⟨_, _, _, _, _, _, _, _, rfl, _, _, _, _, _, _, _, _, z6, A6, B6, C6, _, _, _, _, _, D6⟩ := msg_open y6
    obtain ⟨_, _, _, _, rfl, E6, F6⟩ := conf_open A6
    obtain ⟨_, rfl, G6, _, _, _⟩ := hdr_open B6
    obtain ⟨rfl, _, _, _⟩ := cid_open G6
    have H := H.addR z6
    have H := H.addR E6
    have H := H.addR F6
    have H := H.addR C6
    have H := H.addR D6
    refine uHP hS 1 ?_
    refine uHV 53 13 hS (H.fc 5 rfl) nq0 ?_
    refine uHB hS 1 ?_
    refine (RGB.cons' ?_ (RGB.cons' ?_ RGB.nil'))
    ·
     refine RG.leaf' [(6, .seq), (7, .qui), (8, .qui), (9, .qui), (10, .seq), (11, .seq), (12, .qui)] (by as_aux_lemma => kernel_rfl) ?_
     have Hr := H
     refine RH.chn hS ?_
     -- call
     refine uK (got_spec (W := g0) (wr_mkV u64a u64a ⟨rfl, by first | assumption | (simp [maxLen]; done) | decide⟩ (H.rp 9 rfl) (H.rp 8 rfl) (H.rp 7 rfl) (H.rp 6 rfl) i64a i64a i64a) 10 2 (⟨((((msgsOf hW0)[1]).head).id), (((msgsOf hW0)[1]).head).kk, (((msgsOf hW0)[1]).head).nn, (((msgsOf hW0)[1]).head).size, (((msgsOf hW0)[1]).head).sum⟩) true (.I 0) (.int .u64 0) (.int .u64 0) (.int .u64 0) (.int .u64 0) (.int .u64 0) (.bool false) (.slice none 0 0) (.slice none 0 0) (.slice none 0 0) (.slice none 0 0) (.int .u64 0) (.int .u64 0) (.I 0) (.string (⟨#[]⟩)) (.I 0) (.slice none 0 0) (by first | assumption | omega)) ?_
     rintro _ _ D ⟨_, h0, i0, rfl, H6, k⟩
     have a := H
     obtain ⟨o3, p3, q3, r3, s3, t3, u3, v3, rfl, _, _, _, I6, J6, K6, L6, _, _, _⟩ := wr_open H6
     have H := H.addM D I6
     have H := H.addO a D J6
     have H := H.addO a D K6
     have H := H.addO a D L6
     have Z0 := gotOf_keep k
     have S8 := congrArg List.length Z0.1
     intro hS
     refine uHP hS 3 ?_
     refine RH.chn hS ?_
     refine RW.newC (κ := .chn) (d := some 6) (r := []) (o := .cells (wrZ).toArray 32 (0, 0)) (v := fun b => .P b 0) (fun b => by as_aux_lemma => kernel_rfl) (nofun) H ?_
     intro B8 _ w3 H
     have x3 := Nat.le_trans hS.size w3
     intro hS
     refine RH.sto ?_
     refine uWC 32 0 (wrV h0 o3 p3 q3 r3 s3 t3 u3 v3).toArray H 0 rfl ?_
     intro _ y3 H
     have F0 := hS.sto y3 (.inl x3)
     refine ⟨F0, ?_⟩
     have hS := F0
     refine uHF hS 1 ?_
     refine uR 1 [.c [5, 0], .c [6]] ?_
     have H := H.dropM 1
     have H := H.pick [0, 1, 2, 3, 14, 15, 16, 17, 18] rfl
     refine WK.drawH1 [] (.node (qs [0, 1, 2, 3, 4, 5]) (.cons 6 (.leaf [(7, .qui), (8, .qui), (9, .qui), (10, .seq), (11, .seq), (12, .qui)]) (.cons 10 (.leaf [(6, .seq), (7, .qui), (8, .qui), (9, .qui), (11, .seq), (12, .qui)]) .nil))) Try_mixed (by as_aux_lemma => kernel_rfl) (by as_aux_lemma => kernel_rfl) ?_
     intro C8 G0
     have H := H.draw
     rw [← G0] at H
     clear G0
     have hS := Chg.refl C8 []
     refine RG.node' (qs [0, 1, 2, 3, 4, 5]) (by as_aux_lemma => kernel_rfl) ?_
     refine uHV 32 0 hS (H.cells 1 rfl) nq0 ?_
     refine uHP hS 1 ?_
     have M6 : 1 < (msgsOf hW0).length := by rw [hW_len]; omega
     refine uHX 33 1 hS H 8 rfl 1 (by omega) (List.getElem?_eq_getElem M6) ?_
     intro _ _ _ N6 H
     obtain ⟨_, _, _, _, _, _, _, _, rfl, _, _, _, _, _, _, _, _, O6, P6, Q6, R6, _, _, _, _, _, S6⟩ := msg_open N6
     obtain ⟨_, _, _, _, rfl, T6, U6⟩ := conf_open P6
     obtain ⟨_, rfl, V6, _, _, _⟩ := hdr_open Q6
     obtain ⟨rfl, _, _, _⟩ := cid_open V6
     have H := H.addR O6
     have H := H.addR T6
     have H := H.addR U6
     have H := H.addR R6
     have H := H.addR S6
     refine uHP hS 1 ?_
     refine uHV 53 13 hS (H.fc 5 rfl) nq0 ?_
     refine uHB hS 1 ?_
     refine (RGB.cons' ?_ (RGB.cons' ?_ RGB.nil'))
     ·
      refine RG.leaf' [(6, .seq), (7, .qui), (8, .qui), (9, .qui), (10, .seq), (11, .seq), (12, .qui)] (by as_aux_lemma => kernel_rfl) ?_
      have Hr := H
      refine RH.chn hS ?_
      -- call
      refine uK (got_spec (W := hW0) (wr_mkV u64a u64a ⟨rfl, by first | assumption | (simp [maxLen]; done) | decide⟩ (H.rp 13 rfl) (H.rp 12 rfl) (H.rp 11 rfl) (H.rp 10 rfl) i64a i64a i64a) 10 2 (⟨((((msgsOf hW0)[1]).head).id), (((msgsOf hW0)[1]).head).kk, (((msgsOf hW0)[1]).head).nn, (((msgsOf hW0)[1]).head).size, (((msgsOf hW0)[1]).head).sum⟩) false (.I 0) (.int .u64 0) (.int .u64 0) (.int .u64 0) (.int .u64 0) (.int .u64 0) (.bool false) (.slice none 0 0) (.slice none 0 0) (.slice none 0 0) (.slice none 0 0) (.int .u64 0) (.int .u64 0) (.I 0) (.string (⟨#[]⟩)) (.I 0) (.slice none 0 0) (by first | assumption | omega)) ?_
      rintro _ _ E ⟨_, D8, z3, rfl, W6, T⟩
      have a := H
      obtain ⟨A3, B3, C3, D3, E3, F3, G3, H3, rfl, _, _, _, X6, Y6, Z6, hf581, _, _, _⟩ := wr_open W6
      have H := H.addM E X6
      have H := H.addO a E Y6
      have H := H.addO a E Z6
      have H := H.addO a E hf581
      have a1 := gotOf_keep T
      have T8 := congrArg List.length a1.1
      intro hS
      refine uHP hS 3 ?_
      refine RH.chn hS ?_
      refine RW.newC (κ := .chn) (d := some 8) (r := []) (o := .cells (wrZ).toArray 32 (0, 0)) (v := fun b => .P b 0) (fun b => by as_aux_lemma => kernel_rfl) (nofun) H ?_
      intro _ _ I3 H
      have J3 := Nat.le_trans hS.size I3
      intro hS
      refine RH.sto ?_
      refine uWC 32 0 (wrV D8 A3 B3 C3 D3 E3 F3 G3 H3).toArray H 0 rfl ?_
      intro _ K3 H
      have H0 := hS.sto K3 (.inl J3)
      refine ⟨H0, ?_⟩
      have hS := H0
      refine uHF hS 1 ?_
      refine qR 1 [.c [6, 0], .c [7]] [(5, .I n), (6, .P B8 0), (7, .I i0), (9, .I z3)] ?_
      have H := H.dropM 2
      have H := H.dropM 0
      have H := H.pick [10, 11, 12, 13] rfl
      refine qG (sq 0 17) ?_
      refine uP 3 ?_
      refine uE 64 n 0 (fun L3 => ?_) (fun L3 => ?_)
      ·
       refine uP 4 ?_
       refine uE 68 i0 1 (fun M3 => ?_) (fun M3 => ?_)
       ·
        refine uP 4 ?_
        refine uE 72 z3 2 (fun N3 => ?_) (fun N3 => ?_)
        ·
         refine uV 32 0 (H.cells 0 rfl) ?_
         -- call
         refine uK (settle_spec (W := h0) (wr_mkV u64a u64a ⟨rfl, by first | assumption | (simp [maxLen]; done) | decide⟩ (H.rp 3 rfl) (H.rp 2 rfl) (H.rp 1 rfl) (H.rp 0 rfl) i64a i64a i64a) (by first | assumption | omega)) ?_
         rintro _ _ b7 ⟨_, _, O3, rfl, c7, hlaw597⟩
         have a := H
         have H := H.addM b7 c7
         refine uF 4 ?_
         refine qT (.bool (((O3.length : Nat) : Int) == 2)) Try.func22 ?_
         have e := congrArg Prod.fst g
         simp only [] at e
         have h := congrArg Prod.fst k
         simp only [] at h
         rw [e] at h
         have m : O3.length = 2 := by rw [hlaw597, h]; kernel_rfl
         refine ⟨_, rfl, H.done, ?_⟩
         rw [m]; rfl
        ·
         exact absurd ((congrArg Prod.snd T).trans (by kernel_rfl) : _ = (2 : Int)) N3
       ·
        have e := congrArg Prod.fst g
        simp only [] at e
        rw [e] at k
        exact absurd ((congrArg Prod.snd k).trans (by kernel_rfl) : _ = (1 : Int)) M3
      ·
       exact absurd ((congrArg Prod.snd g).trans (by kernel_rfl) : _ = (0 : Int)) L3
     ·
      refine RG.leaf' [(10, .seq), (6, .seq), (7, .qui), (8, .qui), (9, .qui), (11, .seq), (12, .qui)] (by as_aux_lemma => kernel_rfl) ?_
      have Hr := H
      refine RH.chn hS ?_
      refine RW.newC (κ := .chn) (d := some 8) (r := []) (o := .cells (wrZ).toArray 32 (0, 0)) (v := fun b => .P b 0) (fun b => by as_aux_lemma => kernel_rfl) (nofun) H ?_
      intro _ _ P3 H
      have Q3 := Nat.le_trans hS.size P3
      intro hS
      refine RH.chn hS ?_
      -- call
      refine uK (got_spec (W := hW0) (wr_mkV u64a u64a ⟨rfl, by first | assumption | (simp [maxLen]; done) | decide⟩ (H.rp 13 rfl) (H.rp 12 rfl) (H.rp 11 rfl) (H.rp 10 rfl) i64a i64a i64a) 10 2 (⟨((((msgsOf hW0)[1]).head).id), (((msgsOf hW0)[1]).head).kk, (((msgsOf hW0)[1]).head).nn, (((msgsOf hW0)[1]).head).size, (((msgsOf hW0)[1]).head).sum⟩) false (.I 0) (.int .u64 0) (.int .u64 0) (.int .u64 0) (.int .u64 0) (.int .u64 0) (.bool false) (.slice none 0 0) (.slice none 0 0) (.slice none 0 0) (.slice none 0 0) (.int .u64 0) (.int .u64 0) (.I 0) (.string (⟨#[]⟩)) (.I 0) (.slice none 0 0) (by first | assumption | omega)) ?_
      rintro _ _ F ⟨_, E8, F8, rfl, d7, U⟩
      have a := H
      obtain ⟨R3, S3, T3, U3, V3, W3, X3, Y3, rfl, _, _, _, e7, f7, g7, h7, _, _, _⟩ := wr_open d7
      have H := H.addM F e7
      have H := H.addO a F f7
      have H := H.addO a F g7
      have H := H.addO a F h7
      have c1 := gotOf_keep U
      have U8 := congrArg List.length c1.1
      intro hS
      refine uHP hS 3 ?_
      refine RH.sto ?_
      refine uWC 32 0 (wrV E8 R3 S3 T3 U3 V3 W3 X3 Y3).toArray H 0 rfl ?_
      intro _ Z3 H
      have I0 := hS.sto Z3 (.inl Q3)
      refine ⟨I0, ?_⟩
      have hS := I0
      refine uHF hS 1 ?_
      refine uR 1 [.c [6, 0], .c [7]] ?_
      have H := H.dropM 2
      have H := H.dropM 0
      have H := H.pick [10, 11, 12, 13] rfl
      refine qG (sq 0 17) ?_
      refine uP 3 ?_
      refine uE 64 n 0 (fun a4 => ?_) (fun a4 => ?_)
      ·
       refine uP 4 ?_
       refine uE 68 i0 1 (fun b4 => ?_) (fun b4 => ?_)
       ·
        refine uP 4 ?_
        refine uE 72 F8 2 (fun c4 => ?_) (fun c4 => ?_)
        ·
         refine uV 32 0 (H.cells 0 rfl) ?_
         -- call
         refine uK (settle_spec (W := h0) (wr_mkV u64a u64a ⟨rfl, by first | assumption | (simp [maxLen]; done) | decide⟩ (H.rp 3 rfl) (H.rp 2 rfl) (H.rp 1 rfl) (H.rp 0 rfl) i64a i64a i64a) (by first | assumption | omega)) ?_
         rintro _ _ i7 ⟨_, _, d4, rfl, j7, d1⟩
         have a := H
         have H := H.addM i7 j7
         refine uF 4 ?_
         refine qT (.bool (((d4.length : Nat) : Int) == 2)) Try.func22 ?_
         have e := congrArg Prod.fst g
         simp only [] at e
         have h := congrArg Prod.fst k
         simp only [] at h
         rw [e] at h
         have m : d4.length = 2 := by rw [d1, h]; kernel_rfl
         refine ⟨_, rfl, H.done, ?_⟩
         rw [m]; rfl
        ·
         exact absurd ((congrArg Prod.snd U).trans (by kernel_rfl) : _ = (2 : Int)) c4
       ·
        have e := congrArg Prod.fst g
        simp only [] at e
        rw [e] at k
        exact absurd ((congrArg Prod.snd k).trans (by kernel_rfl) : _ = (1 : Int)) b4
      ·
       exact absurd ((congrArg Prod.snd g).trans (by kernel_rfl) : _ = (0 : Int)) a4
    ·
     refine RG.leaf' [(10, .seq), (6, .seq), (7, .qui), (8, .qui), (9, .qui), (11, .seq), (12, .qui)] (by as_aux_lemma => kernel_rfl) ?_
     have Hr := H
     refine RH.chn hS ?_
     refine RW.newC (κ := .chn) (d := some 6) (r := []) (o := .cells (wrZ).toArray 32 (0, 0)) (v := fun b => .P b 0) (fun b => by as_aux_lemma => kernel_rfl) (nofun) H ?_
     intro e4 _ f4 H
     have g4 := Nat.le_trans hS.size f4
     intro hS
     refine RH.chn hS ?_
     -- call
     refine uK (got_spec (W := g0) (wr_mkV u64a u64a ⟨rfl, by first | assumption | (simp [maxLen]; done) | decide⟩ (H.rp 9 rfl) (H.rp 8 rfl) (H.rp 7 rfl) (H.rp 6 rfl) i64a i64a i64a) 10 2 (⟨((((msgsOf hW0)[1]).head).id), (((msgsOf hW0)[1]).head).kk, (((msgsOf hW0)[1]).head).nn, (((msgsOf hW0)[1]).head).size, (((msgsOf hW0)[1]).head).sum⟩) true (.I 0) (.int .u64 0) (.int .u64 0) (.int .u64 0) (.int .u64 0) (.int .u64 0) (.bool false) (.slice none 0 0) (.slice none 0 0) (.slice none 0 0) (.slice none 0 0) (.int .u64 0) (.int .u64 0) (.I 0) (.string (⟨#[]⟩)) (.I 0) (.slice none 0 0) (by first | assumption | omega)) ?_
     rintro _ _ J ⟨_, j0, Z, rfl, k7, l⟩
     have a := H
     obtain ⟨h4, i4, j4, k4, l4, m4, n4, o4, rfl, _, _, _, l7, m7, n7, o7, _, _, _⟩ := wr_open k7
     have H := H.addM J l7
     have H := H.addO a J m7
     have H := H.addO a J n7
     have H := H.addO a J o7
     have e1 := gotOf_keep l
     have V8 := congrArg List.length e1.1
     intro hS
     refine uHP hS 3 ?_
     refine RH.sto ?_
     refine uWC 32 0 (wrV j0 h4 i4 j4 k4 l4 m4 n4 o4).toArray H 0 rfl ?_
     intro _ p4 H
     have J0 := hS.sto p4 (.inl g4)
     refine ⟨J0, ?_⟩
     have hS := J0
     refine uHF hS 1 ?_
     refine qR 1 [.c [5, 0], .c [6]] [(1, .P s0 0), (2, .slice a7 (msgsOf hW0).length c8), (5, .I n), (6, .P e4 0), (7, .I Z)] ?_
     have H := H.dropM 1
     have H := H.pick [0, 1, 2, 3, 14, 15, 16, 17, 18] rfl
     refine WK.drawH1 [] (.node (qs [0, 1, 2, 3, 4, 5]) (.cons 6 (.leaf [(7, .qui), (8, .qui), (9, .qui), (10, .seq), (11, .seq), (12, .qui)]) (.cons 10 (.leaf [(6, .seq), (7, .qui), (8, .qui), (9, .qui), (11, .seq), (12, .qui)]) .nil))) Try_mixed (by as_aux_lemma => kernel_rfl) (by as_aux_lemma => kernel_rfl) ?_
     intro G8 K0
     have H := H.draw
     rw [← K0] at H
     clear K0
     have hS := Chg.refl G8 []
     refine RG.node' (qs [0, 1, 2, 3, 4, 5]) (by as_aux_lemma => kernel_rfl) ?_
     refine uHV 32 0 hS (H.cells 1 rfl) nq0 ?_
     refine uHP hS 1 ?_
     have p7 : 1 < (msgsOf hW0).length := by rw [hW_len]; omega
     refine uHX 33 1 hS H 8 rfl 1 (by omega) (List.getElem?_eq_getElem p7) ?_
     intro _ _ _ q7 H
     obtain ⟨_, _, _, _, _, _, _, _, rfl, _, _, _, _, _, _, _, _, r7, s7, t7, u7, _, _, _, _, _, v7⟩ := msg_open q7
     obtain ⟨_, _, _, _, rfl, w7, x7⟩ := conf_open s7
     obtain ⟨_, rfl, y7, _, _, _⟩ := hdr_open t7
     obtain ⟨rfl, _, _, _⟩ := cid_open y7
     have H := H.addR r7
     have H := H.addR w7
     have H := H.addR x7
     have H := H.addR u7
     have H := H.addR v7
     refine uHP hS 1 ?_
     refine uHV 53 13 hS (H.fc 5 rfl) nq0 ?_
     refine uHB hS 1 ?_
     refine (RGB.cons' ?_ (RGB.cons' ?_ RGB.nil'))
     ·
      refine RG.leaf' [(6, .seq), (7, .qui), (8, .qui), (9, .qui), (10, .seq), (11, .seq), (12, .qui)] (by as_aux_lemma => kernel_rfl) ?_
      have Hr := H
      refine RH.chn hS ?_
      -- call
      refine uK (got_spec (W := hW0) (wr_mkV u64a u64a ⟨rfl, by first | assumption | (simp [maxLen]; done) | decide⟩ (H.rp 13 rfl) (H.rp 12 rfl) (H.rp 11 rfl) (H.rp 10 rfl) i64a i64a i64a) 10 2 (⟨((((msgsOf hW0)[1]).head).id), (((msgsOf hW0)[1]).head).kk, (((msgsOf hW0)[1]).head).nn, (((msgsOf hW0)[1]).head).size, (((msgsOf hW0)[1]).head).sum⟩) false (.I 0) (.int .u64 0) (.int .u64 0) (.int .u64 0) (.int .u64 0) (.int .u64 0) (.bool false) (.slice none 0 0) (.slice none 0 0) (.slice none 0 0) (.slice none 0 0) (.int .u64 0) (.int .u64 0) (.I 0) (.string (⟨#[]⟩)) (.I 0) (.slice none 0 0) (by first | assumption | omega)) ?_
      rintro _ _ K ⟨_, H8, I8, rfl, z7, V⟩
      have a := H
      obtain ⟨q4, r4, s4, t4, u4, v4, x4, y4, rfl, _, _, _, A7, B7, C7, D7, _, _, _⟩ := wr_open z7
      have H := H.addM K A7
      have H := H.addO a K B7
      have H := H.addO a K C7
      have H := H.addO a K D7
      have f1 := gotOf_keep V
      have W8 := congrArg List.length f1.1
      intro hS
      refine uHP hS 3 ?_
      refine RH.chn hS ?_
      refine RW.newC (κ := .chn) (d := some 8) (r := []) (o := .cells (wrZ).toArray 32 (0, 0)) (v := fun b => .P b 0) (fun b => by as_aux_lemma => kernel_rfl) (nofun) H ?_
      intro _ _ z4 H
      have A4 := Nat.le_trans hS.size z4
      intro hS
      refine RH.sto ?_
      refine uWC 32 0 (wrV H8 q4 r4 s4 t4 u4 v4 x4 y4).toArray H 0 rfl ?_
      intro _ B4 H
      have L0 := hS.sto B4 (.inl A4)
      refine ⟨L0, ?_⟩
      have hS := L0
      refine uHF hS 1 ?_
      refine uR 1 [.c [6, 0], .c [7]] ?_
      have H := H.dropM 2
      have H := H.dropM 0
      have H := H.pick [10, 11, 12, 13] rfl
      refine qG (sq 0 17) ?_
      refine uP 3 ?_
      refine uE 64 n 0 (fun C4 => ?_) (fun C4 => ?_)
      ·
       refine uP 4 ?_
       refine uE 68 Z 1 (fun D4 => ?_) (fun D4 => ?_)
       ·
        refine uP 4 ?_
        refine uE 72 I8 2 (fun E4 => ?_) (fun E4 => ?_)
        ·
         refine uV 32 0 (H.cells 0 rfl) ?_
         -- call
         refine uK (settle_spec (W := j0) (wr_mkV u64a u64a ⟨rfl, by first | assumption | (simp [maxLen]; done) | decide⟩ (H.rp 3 rfl) (H.rp 2 rfl) (H.rp 1 rfl) (H.rp 0 rfl) i64a i64a i64a) (by first | assumption | omega)) ?_
         rintro _ _ E7 ⟨_, _, F4, rfl, F7, g1⟩
         have a := H
         have H := H.addM E7 F7
         refine uF 4 ?_
         refine qT (.bool (((F4.length : Nat) : Int) == 2)) Try.func22 ?_
         have e := congrArg Prod.fst g
         simp only [] at e
         have h := congrArg Prod.fst l
         simp only [] at h
         rw [e] at h
         have m : F4.length = 2 := by rw [g1, h]; kernel_rfl
         refine ⟨_, rfl, H.done, ?_⟩
         rw [m]; rfl
        ·
         exact absurd ((congrArg Prod.snd V).trans (by kernel_rfl) : _ = (2 : Int)) E4
       ·
        have e := congrArg Prod.fst g
        simp only [] at e
        rw [e] at l
        exact absurd ((congrArg Prod.snd l).trans (by kernel_rfl) : _ = (1 : Int)) D4
      ·
       exact absurd ((congrArg Prod.snd g).trans (by kernel_rfl) : _ = (0 : Int)) C4
     ·
      refine RG.leaf' [(10, .seq), (6, .seq), (7, .qui), (8, .qui), (9, .qui), (11, .seq), (12, .qui)] (by as_aux_lemma => kernel_rfl) ?_
      have Hr := H
      refine RH.chn hS ?_
      refine RW.newC (κ := .chn) (d := some 8) (r := []) (o := .cells (wrZ).toArray 32 (0, 0)) (v := fun b => .P b 0) (fun b => by as_aux_lemma => kernel_rfl) (nofun) H ?_
      intro _ _ G4 H
      have H4 := Nat.le_trans hS.size G4
      intro hS
      refine RH.chn hS ?_
      -- call
      refine uK (got_spec (W := hW0) (wr_mkV u64a u64a ⟨rfl, by first | assumption | (simp [maxLen]; done) | decide⟩ (H.rp 13 rfl) (H.rp 12 rfl) (H.rp 11 rfl) (H.rp 10 rfl) i64a i64a i64a) 10 2 (⟨((((msgsOf hW0)[1]).head).id), (((msgsOf hW0)[1]).head).kk, (((msgsOf hW0)[1]).head).nn, (((msgsOf hW0)[1]).head).size, (((msgsOf hW0)[1]).head).sum⟩) false (.I 0) (.int .u64 0) (.int .u64 0) (.int .u64 0) (.int .u64 0) (.int .u64 0) (.bool false) (.slice none 0 0) (.slice none 0 0) (.slice none 0 0) (.slice none 0 0) (.int .u64 0) (.int .u64 0) (.I 0) (.string (⟨#[]⟩)) (.I 0) (.slice none 0 0) (by first | assumption | omega)) ?_
      rintro _ _ L ⟨_, J8, I4, rfl, G7, X⟩
      have a := H
      obtain ⟨J4, K4, L4, M4, N4, O4, P4, Q4, rfl, _, _, _, H7, I7, J7, K7, _, _, _⟩ := wr_open G7
      have H := H.addM L H7
      have H := H.addO a L I7
      have H := H.addO a L J7
      have H := H.addO a L K7
      have h1 := gotOf_keep X
      have X8 := congrArg List.length h1.1
      intro hS
      refine uHP hS 3 ?_
      refine RH.sto ?_
      refine uWC 32 0 (wrV J8 J4 K4 L4 M4 N4 O4 P4 Q4).toArray H 0 rfl ?_
      intro _ R4 H
      have M0 := hS.sto R4 (.inl H4)
      refine ⟨M0, ?_⟩
      have hS := M0
      refine uHF hS 1 ?_
      refine uR 1 [.c [6, 0], .c [7]] ?_
      have H := H.dropM 2
      have H := H.dropM 0
      have H := H.pick [10, 11, 12, 13] rfl
      refine qG (sq 0 17) ?_
      refine qP 3 (sq 3 17) [(6, .P e4 0), (7, .I Z), (9, .I I4), (64, .bool (n == 0))] ?_
      refine uE 64 n 0 (fun S4 => ?_) (fun S4 => ?_)
      ·
       refine uP 4 ?_
       refine uE 68 Z 1 (fun T4 => ?_) (fun T4 => ?_)
       ·
        refine uP 4 ?_
        refine uE 72 I4 2 (fun U4 => ?_) (fun U4 => ?_)
        ·
         refine uV 32 0 (H.cells 0 rfl) ?_
         -- call
         refine uK (settle_spec (W := j0) (wr_mkV u64a u64a ⟨rfl, by first | assumption | (simp [maxLen]; done) | decide⟩ (H.rp 3 rfl) (H.rp 2 rfl) (H.rp 1 rfl) (H.rp 0 rfl) i64a i64a i64a) (by first | assumption | omega)) ?_
         rintro _ _ L7 ⟨_, _, V4, rfl, M7, i1⟩
         have a := H
         have H := H.addM L7 M7
         refine uF 4 ?_
         refine qT (.bool (((V4.length : Nat) : Int) == 2)) Try.func22 ?_
         have e := congrArg Prod.fst g
         simp only [] at e
         have h := congrArg Prod.fst l
         simp only [] at h
         rw [e] at h
         have m : V4.length = 2 := by rw [i1, h]; kernel_rfl
         refine ⟨_, rfl, H.done, ?_⟩
         rw [m]; rfl
        ·
         exact absurd ((congrArg Prod.snd X).trans (by kernel_rfl) : _ = (2 : Int)) U4
       ·
        have e := congrArg Prod.fst g
        simp only [] at e
        rw [e] at l
        exact absurd ((congrArg Prod.snd l).trans (by kernel_rfl) : _ = (1 : Int)) T4
      ·
       exact absurd ((congrArg Prod.snd g).trans (by kernel_rfl) : _ = (0 : Int)) S4
end Go.Proofs.Ytppcdmbkgficiaa
