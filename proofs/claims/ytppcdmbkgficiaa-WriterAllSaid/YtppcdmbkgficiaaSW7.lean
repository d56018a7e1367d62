import Derived.Test.YtppcdmbkgficiaaSW6
namespace Go.Proofs.Ytppcdmbkgficiaa
open Go.BX

def hW0 : Wr := beginW 1 1 ⟨#[97]⟩ [1#8, 2#8] 1 2 ⟨0, 3, [1, 2], 0⟩ 10
theorem hW_len : (msgsOf hW0).length = 2 := by kernel_rfl
def hM (i : Nat) : Msg := (msgsOf hW0).getD i (prepOf hW0 0)
theorem hM_at {i : Nat} (h : i < (msgsOf hW0).length) : (msgsOf hW0)[i] = hM i := (getD_at _ h).symm

set_option maxHeartbeats 4000000 in
theorem heads_spec {S : Nat → Prop} {w : World}  :
 Calls Try.prog 22 #[] w (Ret fun v w' => Ext w w' ∧ v = .bool true) := by
 have hwl9 : hW0.heads.length = 2 := by kernel_rfl
 refine qS (fn := Try.f22) (n := 78) (σ := []) Try.func22 ?_
 have H := Hp.startF (w := w) (S := S) (G := []) .nil
 refine qR 3 [.c [1, 0], .c [2]] [] ?_
 refine qG (sq 0 12) ?_
 refine RW.new (κ := .seq) (d := some 11) (r := (sq 1 12)) (o := .cells #[.int .u8 1, .int .u8 2] 5 (0, 0)) (v := fun b => .slice (some ⟨b, 0, none⟩) 2 2) (fun b => by as_aux_lemma => kernel_rfl) (nofun) H ?_
 intro b1 w2 H
 refine RW.new (κ := .seq) (d := some 12) (r := (sq 2 12)) (o := .cells #[.I 1, .I 2] 3 (0, 0)) (v := fun b => .slice (some ⟨b, 0, none⟩) 2 2) (fun b => by as_aux_lemma => kernel_rfl) (nofun) H ?_
 intro b3 w4 H
 refine qP 1 (sq 3 12) [(11, .slice (some ⟨b1, 0, none⟩) 2 2), (13, .agg #[.I 0, .int .u64 3, .slice (some ⟨b3, 0, none⟩) 2 2, .int .u64 0])] ?_
 have H := H.freeze 1 rfl Sb ([1#8, 2#8] : List (BitVec 8)) 2 (by simp [maxLen]) (by first | exact Nat.le_refl _ | simp) (EsP.cons (c := [.int .u8 1]) (Shape.bv_lit (x := 1#8) (by decide)) (EsP.cons (c := [.int .u8 2]) (Shape.bv_lit (x := 2#8) (by decide)) EsP.nil))
 have H : Hp w S [] [(b3, .cells #[.I 1, .I 2] 3 (0, 0))] [] [Rp SB [.slice (some ⟨b1, 0, none⟩) 2 2] ([1#8, 2#8] : List (BitVec 8))] _ := H
 have H := H.freeze 0 rfl (Shape.int .i64) ([1, 2] : List Int) 2 (by simp [maxLen]) (by first | exact Nat.le_refl _ | simp) (EsP.cons (c := [.I 1]) (Shape.int_mk (by decide)) (EsP.cons (c := [.I 2]) (Shape.int_mk (by decide)) EsP.nil))
 have H : Hp w S [] [] [] [Rp (Shape.slice (Shape.int .i64)) [.slice (some ⟨b3, 0, none⟩) 2 2] ([1, 2] : List Int), Rp SB [.slice (some ⟨b1, 0, none⟩) 2 2] ([1#8, 2#8] : List (BitVec 8))] _ := H
 refine qK .seq (some 14) (sq 4 12) 18 #[.int .u64 1, .int .u64 1, .string (⟨#[97]⟩), .slice (some ⟨b1, 0, none⟩) 2 2, .I 1, .I 2, .agg #[.I 0, .int .u64 3, .slice (some ⟨b3, 0, none⟩) 2 2, .int .u64 0], .I 10] (begin_ok (xs := ([1#8, 2#8] : List (BitVec 8))) (R := ⟨0, 3, ([1, 2] : List Int), 0⟩) 1 1 (⟨#[97]⟩) (H.rp 1 rfl) (res_mk (Shape.int_mk (by decide)) (Shape.int_mk (by decide)) (H.rp 0 rfl) (Shape.int_mk (by decide))) 10 (by first | assumption | decide | (simp [maxLen]; done)) (by omega) (by omega) 1 2 (by first | omega | (simp; done)) (by omega) (by omega) (by omega) (by first | rfl | omega) (by omega)) ?_
 rintro _ w5 hE9 ⟨cs6, a7, c8, rfl, hr10, hr11⟩
 have H0s := H
 replace hr10 : wrS.rep _ _ cs6 hW0 := hr10
 obtain ⟨a3q12, k3q12, a4q12, k4q12, a5q12, k5q12, a6q12, k6q12, rfl, hf13, hf14, hf15, hf16, hf17, hf18, hf19, hf20, hf21, hf22⟩ := wr_open hr10
 have H := H.addN hE9 (F := Rp (Shape.slice msgS) [.slice a7 (msgsOf hW0).length c8] (msgsOf hW0)) hr11
 have H := H.add (F := Rp (Shape.slice hdrS) [.slice a3q12 hW0.heads.length k3q12] hW0.heads) ((H0s.addN hE9 (F := Rp (Shape.slice hdrS) [.slice a3q12 hW0.heads.length k3q12] hW0.heads) hf16).rp 0 rfl)
 have H := H.add (F := Rp (Shape.slice SB) [.slice a4q12 hW0.chunks.length k4q12] hW0.chunks) ((H0s.addN hE9 (F := Rp (Shape.slice SB) [.slice a4q12 hW0.chunks.length k4q12] hW0.chunks) hf17).rp 0 rfl)
 have H := H.add (F := Rp (Shape.slice (Shape.int .i64)) [.slice a5q12 hW0.nodes.length k5q12] hW0.nodes) ((H0s.addN hE9 (F := Rp (Shape.slice (Shape.int .i64)) [.slice a5q12 hW0.nodes.length k5q12] hW0.nodes) hf18).rp 0 rfl)
 have H := H.add (F := Rp (Shape.slice (Shape.int .i64)) [.slice a6q12 hW0.acks.length k6q12] hW0.acks) ((H0s.addN hE9 (F := Rp (Shape.slice (Shape.int .i64)) [.slice a6q12 hW0.acks.length k6q12] hW0.acks) hf19).rp 0 rfl)
 refine qP 4 (sq 8 12) [(15, .agg (wrV hW0 a3q12 k3q12 a4q12 k4q12 a5q12 k5q12 a6q12 k6q12).toArray), (16, .slice a7 (msgsOf hW0).length c8), (17, .I 0)] ?_
 refine qB .seq 1 (sq 9 12) ((wrZ).toArray) 32 H ?_
 intro b23 w24 H
 refine RW.store (d := none) (r := (sq 10 12)) (T := 32) (b := b23) (k := 0) (v := .agg (wrV hW0 a3q12 k3q12 a4q12 k4q12 a5q12 k5q12 a6q12 k6q12).toArray) (c' := (wrV hW0 a3q12 k3q12 a4q12 k4q12 a5q12 k5q12 a6q12 k6q12).toArray) (M' := [(b23, .cells (wrV hW0 a3q12 k3q12 a4q12 k4q12 a5q12 k5q12 a6q12 k6q12).toArray 32 (0, 0))]) (by as_aux_lemma => kernel_rfl) H 0 rfl (by as_aux_lemma => kernel_rfl) (by as_aux_lemma => kernel_rfl) ?_
 intro w25 H
 refine qF 2 [(1, .P b23 0), (2, .slice a7 (msgsOf hW0).length c8), (3, .I 0)] ?_
 refine qR 2 [.c [2, 0, 0], .c [2, 0, 1], .c [3]] [(1, .P b23 0), (2, .slice a7 (msgsOf hW0).length c8), (3, .I 0)] ?_
 have H := H.pick [0, 1, 2, 3, 4] rfl
 refine qG (sq 0 14) ?_
 refine qP 8 (sq 8 14) [(1, .P b23 0), (2, .slice a7 (msgsOf hW0).length c8), (25, .bool ((((msgsOf hW0).length : Nat) : Int) != 2))] ?_
 refine tN (fun b_ => [(1, .P b23 0), (2, .slice a7 (msgsOf hW0).length c8), (25, .bool b_)]) (((msgsOf hW0).length : Nat) : Int) 2 (fun h26 => ?_) (fun h26 => ?_)
 ·
  exact absurd (congrArg (fun q : Nat => (q : Int)) hW_len) h26
 ·
  refine qP 1 (sq 9 14) [(1, .P b23 0), (2, .slice a7 (msgsOf hW0).length c8), (25, .bool false), (26, .slice a7 (msgsOf hW0).length c8)] ?_
  have hx27 : 1 < (msgsOf hW0).length := by rw [hW_len]; omega
  refine qX .seq 27 (sq 10 14) 33 57 1 msgS ((msgsOf hW0)[1]) H 4 rfl 1 (by omega) (List.getElem?_eq_getElem hx27) ?_
  intro b28 o29 es30 hr31 H
  obtain ⟨a10q32, k10q32, cs11q32, cs12q32, a13q32, k13q32, a19q32, k19q32, rfl, hf33, hf34, hf35, hf36, hf37, hf38, hf39, hf40, hf41, hf42, hf43, hf44, hf45, hf46, hf47, hf48, hf49, hf50⟩ := msg_open hr31
  obtain ⟨a0q51, k0q51, a1q51, k1q51, rfl, hf52, hf53⟩ := conf_open hf42
  obtain ⟨cs0q54, rfl, hf55, hf56, hf57, hf58⟩ := hdr_open hf43
  obtain ⟨rfl, hf60, hf61, hf62⟩ := cid_open hf55
  have H := H.add (F := Rp (Shape.slice entS) [.slice a10q32 (((msgsOf hW0)[1]).entries.length) k10q32] (((msgsOf hW0)[1]).entries)) hf41
  have H := H.add (F := Rp (Shape.slice (Shape.int .i64)) [.slice a0q51 ((((msgsOf hW0)[1]).conf).voters.length) k0q51] ((((msgsOf hW0)[1]).conf).voters)) hf52
  have H := H.add (F := Rp (Shape.slice (Shape.int .i64)) [.slice a1q51 ((((msgsOf hW0)[1]).conf).learners.length) k1q51] ((((msgsOf hW0)[1]).conf).learners)) hf53
  have H := H.add (F := Rp SB [.slice a13q32 (((msgsOf hW0)[1]).data.length) k13q32] (((msgsOf hW0)[1]).data)) hf44
  have H := H.add (F := Rp (Shape.slice Shape.str) [.slice a19q32 (((msgsOf hW0)[1]).names.length) k19q32] (((msgsOf hW0)[1]).names)) hf50
  refine qP 1 (sq 11 14) [(1, .P b23 0), (2, .slice a7 (msgsOf hW0).length c8), (25, .bool false), (28, .pointer (some ⟨b28, o29 + 2, none⟩))] ?_
  refine qL .seq 29 (sq 12 14) 3 b28 (o29 + 2) 2 (.I (((msgsOf hW0)[1]).to)) (H.fc 5 rfl) ?_
  refine qF 2 [(1, .P b23 0), (2, .slice a7 (msgsOf hW0).length c8), (31, .bool ((((msgsOf hW0)[1]).to) != 2))] ?_
  refine qN (((msgsOf hW0)[1]).to) 2 (fun h63 => ?_) (fun h63 => ?_)
  ·
   exact absurd (by kernel_rfl) h63
  ·
   refine qR 2 [.c [3, 0], .c [4]] [(1, .P b23 0), (2, .slice a7 (msgsOf hW0).length c8)] ?_
   have H := H.pick [6, 7, 8, 9, 10] rfl
   refine WK.drawH1 [] (.node (qs [0, 1, 2, 3, 4, 5]) (.cons 6 (.leaf [(7, .qui), (8, .qui), (9, .qui), (10, .seq), (11, .seq), (12, .qui)]) (.cons 10 (.leaf [(6, .seq), (7, .qui), (8, .qui), (9, .qui), (11, .seq), (12, .qui)]) .nil))) Try_mixed (by as_aux_lemma => kernel_rfl) (by as_aux_lemma => kernel_rfl) ?_
   intro w64 hw65
   have H := H.draw
   rw [← hw65] at H
   clear hw65
   have hS := Chg.refl w64 []
   refine RG.node' (qs [0, 1, 2, 3, 4, 5]) (by as_aux_lemma => kernel_rfl) ?_
   refine RH.load (d := some 33) (r := (qs [1, 2, 3, 4, 5])) (T := 32) (b := b23) (o' := 0) (k := 0) (v := .agg (wrV hW0 a3q12 k3q12 a4q12 k4q12 a5q12 k5q12 a6q12 k6q12).toArray) (by as_aux_lemma => kernel_rfl) hS (H.cells 0 rfl) (by simp) (by simp) rfl (by as_aux_lemma => kernel_rfl) ?_
   refine qHP hS 1 (qs [2, 3, 4, 5]) [(1, .P b23 0), (2, .slice a7 (msgsOf hW0).length c8), (33, .agg (wrV hW0 a3q12 k3q12 a4q12 k4q12 a5q12 k5q12 a6q12 k6q12).toArray), (34, .slice a7 (msgsOf hW0).length c8)] ?_
   have hx66 : 0 < (msgsOf hW0).length := by rw [hW_len]; omega
   refine RH.index (d := some 35) (r := (qs [3, 4, 5])) (T := 33) (e := 57) (ik := .i64) (ix := 0) (sh := msgS) (x := (msgsOf hW0)[0]) (by as_aux_lemma => kernel_rfl) hS (by as_aux_lemma => kernel_rfl) H 4 rfl 0 (by omega) (List.getElem?_eq_getElem hx66) ?_
   intro b67 o68 es69 hr70 H
   obtain ⟨a10q71, k10q71, cs11q71, cs12q71, a13q71, k13q71, a19q71, k19q71, rfl, hf72, hf73, hf74, hf75, hf76, hf77, hf78, hf79, hf80, hf81, hf82, hf83, hf84, hf85, hf86, hf87, hf88, hf89⟩ := msg_open hr70
   obtain ⟨a0q90, k0q90, a1q90, k1q90, rfl, hf91, hf92⟩ := conf_open hf81
   obtain ⟨cs0q93, rfl, hf94, hf95, hf96, hf97⟩ := hdr_open hf82
   obtain ⟨rfl, hf99, hf100, hf101⟩ := cid_open hf94
   have H := H.add (F := Rp (Shape.slice entS) [.slice a10q71 (((msgsOf hW0)[0]).entries.length) k10q71] (((msgsOf hW0)[0]).entries)) hf80
   have H := H.add (F := Rp (Shape.slice (Shape.int .i64)) [.slice a0q90 ((((msgsOf hW0)[0]).conf).voters.length) k0q90] ((((msgsOf hW0)[0]).conf).voters)) hf91
   have H := H.add (F := Rp (Shape.slice (Shape.int .i64)) [.slice a1q90 ((((msgsOf hW0)[0]).conf).learners.length) k1q90] ((((msgsOf hW0)[0]).conf).learners)) hf92
   have H := H.add (F := Rp SB [.slice a13q71 (((msgsOf hW0)[0]).data.length) k13q71] (((msgsOf hW0)[0]).data)) hf83
   have H := H.add (F := Rp (Shape.slice Shape.str) [.slice a19q71 (((msgsOf hW0)[0]).names.length) k19q71] (((msgsOf hW0)[0]).names)) hf89
   refine qHP hS 1 (qs [4, 5]) [(1, .P b23 0), (2, .slice a7 (msgsOf hW0).length c8), (33, .agg (wrV hW0 a3q12 k3q12 a4q12 k4q12 a5q12 k5q12 a6q12 k6q12).toArray), (36, .pointer (some ⟨b67, o68 + 13, none⟩))] ?_
   refine RH.load (d := some 37) (r := [(5, .qui)]) (T := 53) (b := b67) (o' := o68 + 13) (k := 13) (v := .agg (hdrV (((msgsOf hW0)[0]).head)).toArray) (by as_aux_lemma => kernel_rfl) hS (H.fc 5 rfl) (by simp) (by simp) rfl (by as_aux_lemma => kernel_rfl) ?_
   refine RH.finB hS 1 [1, 2, 33, 38] [(1, .P b23 0), (2, .slice a7 (msgsOf hW0).length c8), (33, .agg (wrV hW0 a3q12 k3q12 a4q12 k4q12 a5q12 k5q12 a6q12 k6q12).toArray), (38, .agg #[.I 10, .I 1, .I 0, .int .u64 0, .int .u64 0, .int .u64 0, .int .u64 0, .int .u64 0, .bool true, .bool false, .slice none 0 0, .slice none 0 0, .slice none 0 0, .int .u64 (((((msgsOf hW0)[0]).head).id).version), .I (((((msgsOf hW0)[0]).head).id).index), .int .u64 (((((msgsOf hW0)[0]).head).id).epoch), .I ((((msgsOf hW0)[0]).head).kk), .I ((((msgsOf hW0)[0]).head).nn), .I ((((msgsOf hW0)[0]).head).size), .int .u32 ((((((msgsOf hW0)[0]).head).sum).toNat : Nat) : Int), .slice none 0 0, .int .u64 0, .int .u64 0, .I 0, .string (⟨#[]⟩), .I 0, .slice none 0 0])] (by as_aux_lemma => kernel_rfl) ?_
   refine (RGB.cons' ?_ (RGB.cons' ?_ RGB.nil'))
   ·
    refine RG.leaf' [(6, .seq), (7, .qui), (8, .qui), (9, .qui), (10, .seq), (11, .seq), (12, .qui)] (by as_aux_lemma => kernel_rfl) ?_
    have Hr := H
    refine RH.chn hS ?_
    -- call
    refine qK .chn (some 39) [] 23 #[.agg (wrV hW0 a3q12 k3q12 a4q12 k4q12 a5q12 k5q12 a6q12 k6q12).toArray, .agg #[.I 10, .I 1, .I 0, .int .u64 0, .int .u64 0, .int .u64 0, .int .u64 0, .int .u64 0, .bool true, .bool false, .slice none 0 0, .slice none 0 0, .slice none 0 0, .int .u64 (((((msgsOf hW0)[0]).head).id).version), .I (((((msgsOf hW0)[0]).head).id).index), .int .u64 (((((msgsOf hW0)[0]).head).id).epoch), .I ((((msgsOf hW0)[0]).head).kk), .I ((((msgsOf hW0)[0]).head).nn), .I ((((msgsOf hW0)[0]).head).size), .int .u32 ((((((msgsOf hW0)[0]).head).sum).toNat : Nat) : Int), .slice none 0 0, .int .u64 0, .int .u64 0, .I 0, .string (⟨#[]⟩), .I 0, .slice none 0 0]] (got_spec (W := hW0) (wr_mkV u64a u64a ⟨rfl, by first | assumption | (simp [maxLen]; done) | decide⟩ (H.rp 9 rfl) (H.rp 8 rfl) (H.rp 7 rfl) (H.rp 6 rfl) i64a i64a i64a) 10 1 (⟨((((msgsOf hW0)[0]).head).id), (((msgsOf hW0)[0]).head).kk, (((msgsOf hW0)[0]).head).nn, (((msgsOf hW0)[0]).head).size, (((msgsOf hW0)[0]).head).sum⟩) true (.I 0) (.int .u64 0) (.int .u64 0) (.int .u64 0) (.int .u64 0) (.int .u64 0) (.bool false) (.slice none 0 0) (.slice none 0 0) (.slice none 0 0) (.slice none 0 0) (.int .u64 0) (.int .u64 0) (.I 0) (.string (⟨#[]⟩)) (.I 0) (.slice none 0 0) (by first | assumption | omega)) ?_
    rintro _ w103 hE104 ⟨cs107, D106, D108, rfl, hr109, hlaw105⟩
    have H0s := H
    obtain ⟨a3q110, k3q110, a4q110, k4q110, a5q110, k5q110, a6q110, k6q110, rfl, hf111, hf112, hf113, hf114, hf115, hf116, hf117, hf118, hf119, hf120⟩ := wr_open hr109
    have H := H.addN hE104 (F := Rp (Shape.slice hdrS) [.slice a3q110 D106.heads.length k3q110] D106.heads) hf114
    have H := H.add (F := Rp (Shape.slice SB) [.slice a4q110 D106.chunks.length k4q110] D106.chunks) ((H0s.addN hE104 (F := Rp (Shape.slice SB) [.slice a4q110 D106.chunks.length k4q110] D106.chunks) hf115).rp 0 rfl)
    have H := H.add (F := Rp (Shape.slice (Shape.int .i64)) [.slice a5q110 D106.nodes.length k5q110] D106.nodes) ((H0s.addN hE104 (F := Rp (Shape.slice (Shape.int .i64)) [.slice a5q110 D106.nodes.length k5q110] D106.nodes) hf116).rp 0 rfl)
    have H := H.add (F := Rp (Shape.slice (Shape.int .i64)) [.slice a6q110 D106.acks.length k6q110] D106.acks) ((H0s.addN hE104 (F := Rp (Shape.slice (Shape.int .i64)) [.slice a6q110 D106.acks.length k6q110] D106.acks) hf117).rp 0 rfl)
    have hkpD106 := gotOf_keep hlaw105
    have hlkD106 := congrArg List.length hkpD106.1
    intro hS
    refine qHP hS 3 [(10, .seq), (11, .seq), (12, .qui)] [(1, .P b23 0), (2, .slice a7 (msgsOf hW0).length c8), (40, .agg (wrV D106 a3q110 k3q110 a4q110 k4q110 a5q110 k5q110 a6q110 k6q110).toArray), (41, .I D108)] ?_
    refine RH.chn hS ?_
    refine RW.newC (κ := .chn) (d := some 4) (r := []) (o := .cells (wrZ).toArray 32 (0, 0)) (v := fun b => .P b 0) (fun b => by as_aux_lemma => kernel_rfl) (nofun) H ?_
    intro b122 w123 hnw121 H
    have hnb124 := Nat.le_trans hS.size hnw121
    intro hS
    refine RH.sto ?_
    refine RW.storeC (d := none) (r := []) (T := 32) (b := b122) (k := 0) (v := .agg (wrV D106 a3q110 k3q110 a4q110 k4q110 a5q110 k5q110 a6q110 k6q110).toArray) (c' := (wrV D106 a3q110 k3q110 a4q110 k4q110 a5q110 k5q110 a6q110 k6q110).toArray) (M' := [(b122, .cells (wrV D106 a3q110 k3q110 a4q110 k4q110 a5q110 k5q110 a6q110 k6q110).toArray 32 (0, 0)), (b23, .cells (wrV hW0 a3q12 k3q12 a4q12 k4q12 a5q12 k5q12 a6q12 k6q12).toArray 32 (0, 0))]) (by as_aux_lemma => kernel_rfl) H 0 rfl (by as_aux_lemma => kernel_rfl) (by as_aux_lemma => kernel_rfl) ?_
    intro w126 hch125 H
    have hS127 := hS.sto hch125 (.inl hnb124)
    refine ⟨hS127, ?_⟩
    have hS := hS127
    refine RH.fin hS 1 [1, 2, 4, 5] [(1, .P b23 0), (2, .slice a7 (msgsOf hW0).length c8), (4, .P b122 0), (5, .I D108)] (by as_aux_lemma => kernel_rfl) ?_
    refine qR 1 [.c [4, 0], .c [5]] [(1, .P b23 0), (2, .slice a7 (msgsOf hW0).length c8), (4, .P b122 0), (5, .I D108)] ?_
    have H := H.pick [0, 1, 2, 3, 10, 11, 12, 13, 14] rfl
    refine WK.drawH1 [] (.node (qs [0, 1, 2, 3, 4, 5]) (.cons 6 (.leaf [(7, .qui), (8, .qui), (9, .qui), (10, .seq), (11, .seq), (12, .qui)]) (.cons 10 (.leaf [(6, .seq), (7, .qui), (8, .qui), (9, .qui), (11, .seq), (12, .qui)]) .nil))) Try_mixed (by as_aux_lemma => kernel_rfl) (by as_aux_lemma => kernel_rfl) ?_
    intro w128 hw129
    have H := H.draw
    rw [← hw129] at H
    clear hw129
    have hS := Chg.refl w128 []
    refine RG.node' (qs [0, 1, 2, 3, 4, 5]) (by as_aux_lemma => kernel_rfl) ?_
    refine RH.load (d := some 43) (r := (qs [1, 2, 3, 4, 5])) (T := 32) (b := b122) (o' := 0) (k := 0) (v := .agg (wrV D106 a3q110 k3q110 a4q110 k4q110 a5q110 k5q110 a6q110 k6q110).toArray) (by as_aux_lemma => kernel_rfl) hS (H.cells 0 rfl) (by simp) (by simp) rfl (by as_aux_lemma => kernel_rfl) ?_
    refine qHP hS 1 (qs [2, 3, 4, 5]) [(1, .P b23 0), (2, .slice a7 (msgsOf hW0).length c8), (5, .I D108), (43, .agg (wrV D106 a3q110 k3q110 a4q110 k4q110 a5q110 k5q110 a6q110 k6q110).toArray), (44, .slice a7 (msgsOf hW0).length c8)] ?_
    have hx130 : 1 < (msgsOf hW0).length := by rw [hW_len]; omega
    refine RH.index (d := some 45) (r := (qs [3, 4, 5])) (T := 33) (e := 57) (ik := .i64) (ix := 1) (sh := msgS) (x := (msgsOf hW0)[1]) (by as_aux_lemma => kernel_rfl) hS (by as_aux_lemma => kernel_rfl) H 8 rfl 1 (by omega) (List.getElem?_eq_getElem hx130) ?_
    intro b131 o132 es133 hr134 H
    obtain ⟨a10q135, k10q135, cs11q135, cs12q135, a13q135, k13q135, a19q135, k19q135, rfl, hf136, hf137, hf138, hf139, hf140, hf141, hf142, hf143, hf144, hf145, hf146, hf147, hf148, hf149, hf150, hf151, hf152, hf153⟩ := msg_open hr134
    obtain ⟨a0q154, k0q154, a1q154, k1q154, rfl, hf155, hf156⟩ := conf_open hf145
    obtain ⟨cs0q157, rfl, hf158, hf159, hf160, hf161⟩ := hdr_open hf146
    obtain ⟨rfl, hf163, hf164, hf165⟩ := cid_open hf158
    have H := H.add (F := Rp (Shape.slice entS) [.slice a10q135 (((msgsOf hW0)[1]).entries.length) k10q135] (((msgsOf hW0)[1]).entries)) hf144
    have H := H.add (F := Rp (Shape.slice (Shape.int .i64)) [.slice a0q154 ((((msgsOf hW0)[1]).conf).voters.length) k0q154] ((((msgsOf hW0)[1]).conf).voters)) hf155
    have H := H.add (F := Rp (Shape.slice (Shape.int .i64)) [.slice a1q154 ((((msgsOf hW0)[1]).conf).learners.length) k1q154] ((((msgsOf hW0)[1]).conf).learners)) hf156
    have H := H.add (F := Rp SB [.slice a13q135 (((msgsOf hW0)[1]).data.length) k13q135] (((msgsOf hW0)[1]).data)) hf147
    have H := H.add (F := Rp (Shape.slice Shape.str) [.slice a19q135 (((msgsOf hW0)[1]).names.length) k19q135] (((msgsOf hW0)[1]).names)) hf153
    refine qHP hS 1 (qs [4, 5]) [(1, .P b23 0), (2, .slice a7 (msgsOf hW0).length c8), (5, .I D108), (43, .agg (wrV D106 a3q110 k3q110 a4q110 k4q110 a5q110 k5q110 a6q110 k6q110).toArray), (46, .pointer (some ⟨b131, o132 + 13, none⟩))] ?_
    refine RH.load (d := some 47) (r := [(5, .qui)]) (T := 53) (b := b131) (o' := o132 + 13) (k := 13) (v := .agg (hdrV (((msgsOf hW0)[1]).head)).toArray) (by as_aux_lemma => kernel_rfl) hS (H.fc 5 rfl) (by simp) (by simp) rfl (by as_aux_lemma => kernel_rfl) ?_
    refine RH.finB hS 1 [1, 2, 5, 43, 48] [(1, .P b23 0), (2, .slice a7 (msgsOf hW0).length c8), (5, .I D108), (43, .agg (wrV D106 a3q110 k3q110 a4q110 k4q110 a5q110 k5q110 a6q110 k6q110).toArray), (48, .agg #[.I 10, .I 2, .I 0, .int .u64 0, .int .u64 0, .int .u64 0, .int .u64 0, .int .u64 0, .bool true, .bool false, .slice none 0 0, .slice none 0 0, .slice none 0 0, .int .u64 (((((msgsOf hW0)[1]).head).id).version), .I (((((msgsOf hW0)[1]).head).id).index), .int .u64 (((((msgsOf hW0)[1]).head).id).epoch), .I ((((msgsOf hW0)[1]).head).kk), .I ((((msgsOf hW0)[1]).head).nn), .I ((((msgsOf hW0)[1]).head).size), .int .u32 ((((((msgsOf hW0)[1]).head).sum).toNat : Nat) : Int), .slice none 0 0, .int .u64 0, .int .u64 0, .I 0, .string (⟨#[]⟩), .I 0, .slice none 0 0])] (by as_aux_lemma => kernel_rfl) ?_
    refine (RGB.cons' ?_ (RGB.cons' ?_ RGB.nil'))
    ·
     refine RG.leaf' [(6, .seq), (7, .qui), (8, .qui), (9, .qui), (10, .seq), (11, .seq), (12, .qui)] (by as_aux_lemma => kernel_rfl) ?_
     have Hr := H
     refine RH.chn hS ?_
     -- call
     refine qK .chn (some 49) [] 23 #[.agg (wrV D106 a3q110 k3q110 a4q110 k4q110 a5q110 k5q110 a6q110 k6q110).toArray, .agg #[.I 10, .I 2, .I 0, .int .u64 0, .int .u64 0, .int .u64 0, .int .u64 0, .int .u64 0, .bool true, .bool false, .slice none 0 0, .slice none 0 0, .slice none 0 0, .int .u64 (((((msgsOf hW0)[1]).head).id).version), .I (((((msgsOf hW0)[1]).head).id).index), .int .u64 (((((msgsOf hW0)[1]).head).id).epoch), .I ((((msgsOf hW0)[1]).head).kk), .I ((((msgsOf hW0)[1]).head).nn), .I ((((msgsOf hW0)[1]).head).size), .int .u32 ((((((msgsOf hW0)[1]).head).sum).toNat : Nat) : Int), .slice none 0 0, .int .u64 0, .int .u64 0, .I 0, .string (⟨#[]⟩), .I 0, .slice none 0 0]] (got_spec (W := D106) (wr_mkV u64a u64a ⟨rfl, by first | assumption | (simp [maxLen]; done) | decide⟩ (H.rp 9 rfl) (H.rp 8 rfl) (H.rp 7 rfl) (H.rp 6 rfl) i64a i64a i64a) 10 2 (⟨((((msgsOf hW0)[1]).head).id), (((msgsOf hW0)[1]).head).kk, (((msgsOf hW0)[1]).head).nn, (((msgsOf hW0)[1]).head).size, (((msgsOf hW0)[1]).head).sum⟩) true (.I 0) (.int .u64 0) (.int .u64 0) (.int .u64 0) (.int .u64 0) (.int .u64 0) (.bool false) (.slice none 0 0) (.slice none 0 0) (.slice none 0 0) (.slice none 0 0) (.int .u64 0) (.int .u64 0) (.I 0) (.string (⟨#[]⟩)) (.I 0) (.slice none 0 0) (by first | assumption | omega)) ?_
     rintro _ w167 hE168 ⟨cs171, D170, D172, rfl, hr173, hlaw169⟩
     have H0s := H
     obtain ⟨a3q174, k3q174, a4q174, k4q174, a5q174, k5q174, a6q174, k6q174, rfl, hf175, hf176, hf177, hf178, hf179, hf180, hf181, hf182, hf183, hf184⟩ := wr_open hr173
     have H := H.addN hE168 (F := Rp (Shape.slice hdrS) [.slice a3q174 D170.heads.length k3q174] D170.heads) hf178
     have H := H.add (F := Rp (Shape.slice SB) [.slice a4q174 D170.chunks.length k4q174] D170.chunks) ((H0s.addN hE168 (F := Rp (Shape.slice SB) [.slice a4q174 D170.chunks.length k4q174] D170.chunks) hf179).rp 0 rfl)
     have H := H.add (F := Rp (Shape.slice (Shape.int .i64)) [.slice a5q174 D170.nodes.length k5q174] D170.nodes) ((H0s.addN hE168 (F := Rp (Shape.slice (Shape.int .i64)) [.slice a5q174 D170.nodes.length k5q174] D170.nodes) hf180).rp 0 rfl)
     have H := H.add (F := Rp (Shape.slice (Shape.int .i64)) [.slice a6q174 D170.acks.length k6q174] D170.acks) ((H0s.addN hE168 (F := Rp (Shape.slice (Shape.int .i64)) [.slice a6q174 D170.acks.length k6q174] D170.acks) hf181).rp 0 rfl)
     have hkpD170 := gotOf_keep hlaw169
     have hlkD170 := congrArg List.length hkpD170.1
     intro hS
     refine qHP hS 3 [(10, .seq), (11, .seq), (12, .qui)] [(1, .P b23 0), (2, .slice a7 (msgsOf hW0).length c8), (5, .I D108), (50, .agg (wrV D170 a3q174 k3q174 a4q174 k4q174 a5q174 k5q174 a6q174 k6q174).toArray), (51, .I D172)] ?_
     refine RH.chn hS ?_
     refine RW.newC (κ := .chn) (d := some 6) (r := []) (o := .cells (wrZ).toArray 32 (0, 0)) (v := fun b => .P b 0) (fun b => by as_aux_lemma => kernel_rfl) (nofun) H ?_
     intro b186 w187 hnw185 H
     have hnb188 := Nat.le_trans hS.size hnw185
     intro hS
     refine RH.sto ?_
     refine RW.storeC (d := none) (r := []) (T := 32) (b := b186) (k := 0) (v := .agg (wrV D170 a3q174 k3q174 a4q174 k4q174 a5q174 k5q174 a6q174 k6q174).toArray) (c' := (wrV D170 a3q174 k3q174 a4q174 k4q174 a5q174 k5q174 a6q174 k6q174).toArray) (M' := [(b186, .cells (wrV D170 a3q174 k3q174 a4q174 k4q174 a5q174 k5q174 a6q174 k6q174).toArray 32 (0, 0)), (b122, .cells (wrV D106 a3q110 k3q110 a4q110 k4q110 a5q110 k5q110 a6q110 k6q110).toArray 32 (0, 0)), (b23, .cells (wrV hW0 a3q12 k3q12 a4q12 k4q12 a5q12 k5q12 a6q12 k6q12).toArray 32 (0, 0))]) (by as_aux_lemma => kernel_rfl) H 0 rfl (by as_aux_lemma => kernel_rfl) (by as_aux_lemma => kernel_rfl) ?_
     intro w190 hch189 H
     have hS191 := hS.sto hch189 (.inl hnb188)
     refine ⟨hS191, ?_⟩
     have hS := hS191
     refine RH.fin hS 1 [1, 2, 5, 6, 7] [(1, .P b23 0), (2, .slice a7 (msgsOf hW0).length c8), (5, .I D108), (6, .P b186 0), (7, .I D172)] (by as_aux_lemma => kernel_rfl) ?_
     refine qR 1 [.c [5, 0], .c [6]] [(1, .P b23 0), (2, .slice a7 (msgsOf hW0).length c8), (5, .I D108), (6, .P b186 0), (7, .I D172)] ?_
     have H := H.dropM 1
     have H := H.pick [0, 1, 2, 3, 14, 15, 16, 17, 18] rfl
     refine WK.drawH1 [] (.node (qs [0, 1, 2, 3, 4, 5]) (.cons 6 (.leaf [(7, .qui), (8, .qui), (9, .qui), (10, .seq), (11, .seq), (12, .qui)]) (.cons 10 (.leaf [(6, .seq), (7, .qui), (8, .qui), (9, .qui), (11, .seq), (12, .qui)]) .nil))) Try_mixed (by as_aux_lemma => kernel_rfl) (by as_aux_lemma => kernel_rfl) ?_
     intro w192 hw193
     have H := H.draw
     rw [← hw193] at H
     clear hw193
     have hS := Chg.refl w192 []
     refine RG.node' (qs [0, 1, 2, 3, 4, 5]) (by as_aux_lemma => kernel_rfl) ?_
     refine RH.load (d := some 53) (r := (qs [1, 2, 3, 4, 5])) (T := 32) (b := b23) (o' := 0) (k := 0) (v := .agg (wrV hW0 a3q12 k3q12 a4q12 k4q12 a5q12 k5q12 a6q12 k6q12).toArray) (by as_aux_lemma => kernel_rfl) hS (H.cells 1 rfl) (by simp) (by simp) rfl (by as_aux_lemma => kernel_rfl) ?_
     refine qHP hS 1 (qs [2, 3, 4, 5]) [(5, .I D108), (6, .P b186 0), (7, .I D172), (53, .agg (wrV hW0 a3q12 k3q12 a4q12 k4q12 a5q12 k5q12 a6q12 k6q12).toArray), (54, .slice a7 (msgsOf hW0).length c8)] ?_
     have hx194 : 1 < (msgsOf hW0).length := by rw [hW_len]; omega
     refine RH.index (d := some 55) (r := (qs [3, 4, 5])) (T := 33) (e := 57) (ik := .i64) (ix := 1) (sh := msgS) (x := (msgsOf hW0)[1]) (by as_aux_lemma => kernel_rfl) hS (by as_aux_lemma => kernel_rfl) H 8 rfl 1 (by omega) (List.getElem?_eq_getElem hx194) ?_
     intro b195 o196 es197 hr198 H
     obtain ⟨a10q199, k10q199, cs11q199, cs12q199, a13q199, k13q199, a19q199, k19q199, rfl, hf200, hf201, hf202, hf203, hf204, hf205, hf206, hf207, hf208, hf209, hf210, hf211, hf212, hf213, hf214, hf215, hf216, hf217⟩ := msg_open hr198
     obtain ⟨a0q218, k0q218, a1q218, k1q218, rfl, hf219, hf220⟩ := conf_open hf209
     obtain ⟨cs0q221, rfl, hf222, hf223, hf224, hf225⟩ := hdr_open hf210
     obtain ⟨rfl, hf227, hf228, hf229⟩ := cid_open hf222
     have H := H.add (F := Rp (Shape.slice entS) [.slice a10q199 (((msgsOf hW0)[1]).entries.length) k10q199] (((msgsOf hW0)[1]).entries)) hf208
     have H := H.add (F := Rp (Shape.slice (Shape.int .i64)) [.slice a0q218 ((((msgsOf hW0)[1]).conf).voters.length) k0q218] ((((msgsOf hW0)[1]).conf).voters)) hf219
     have H := H.add (F := Rp (Shape.slice (Shape.int .i64)) [.slice a1q218 ((((msgsOf hW0)[1]).conf).learners.length) k1q218] ((((msgsOf hW0)[1]).conf).learners)) hf220
     have H := H.add (F := Rp SB [.slice a13q199 (((msgsOf hW0)[1]).data.length) k13q199] (((msgsOf hW0)[1]).data)) hf211
     have H := H.add (F := Rp (Shape.slice Shape.str) [.slice a19q199 (((msgsOf hW0)[1]).names.length) k19q199] (((msgsOf hW0)[1]).names)) hf217
     refine qHP hS 1 (qs [4, 5]) [(5, .I D108), (6, .P b186 0), (7, .I D172), (53, .agg (wrV hW0 a3q12 k3q12 a4q12 k4q12 a5q12 k5q12 a6q12 k6q12).toArray), (56, .pointer (some ⟨b195, o196 + 13, none⟩))] ?_
     refine RH.load (d := some 57) (r := [(5, .qui)]) (T := 53) (b := b195) (o' := o196 + 13) (k := 13) (v := .agg (hdrV (((msgsOf hW0)[1]).head)).toArray) (by as_aux_lemma => kernel_rfl) hS (H.fc 5 rfl) (by simp) (by simp) rfl (by as_aux_lemma => kernel_rfl) ?_
     refine RH.finB hS 1 [5, 6, 7, 53, 58] [(5, .I D108), (6, .P b186 0), (7, .I D172), (53, .agg (wrV hW0 a3q12 k3q12 a4q12 k4q12 a5q12 k5q12 a6q12 k6q12).toArray), (58, .agg #[.I 10, .I 2, .I 0, .int .u64 0, .int .u64 0, .int .u64 0, .int .u64 0, .int .u64 0, .bool false, .bool false, .slice none 0 0, .slice none 0 0, .slice none 0 0, .int .u64 (((((msgsOf hW0)[1]).head).id).version), .I (((((msgsOf hW0)[1]).head).id).index), .int .u64 (((((msgsOf hW0)[1]).head).id).epoch), .I ((((msgsOf hW0)[1]).head).kk), .I ((((msgsOf hW0)[1]).head).nn), .I ((((msgsOf hW0)[1]).head).size), .int .u32 ((((((msgsOf hW0)[1]).head).sum).toNat : Nat) : Int), .slice none 0 0, .int .u64 0, .int .u64 0, .I 0, .string (⟨#[]⟩), .I 0, .slice none 0 0])] (by as_aux_lemma => kernel_rfl) ?_
     refine (RGB.cons' ?_ (RGB.cons' ?_ RGB.nil'))
     ·
      refine RG.leaf' [(6, .seq), (7, .qui), (8, .qui), (9, .qui), (10, .seq), (11, .seq), (12, .qui)] (by as_aux_lemma => kernel_rfl) ?_
      have Hr := H
      refine RH.chn hS ?_
      -- call
      refine qK .chn (some 59) [] 23 #[.agg (wrV hW0 a3q12 k3q12 a4q12 k4q12 a5q12 k5q12 a6q12 k6q12).toArray, .agg #[.I 10, .I 2, .I 0, .int .u64 0, .int .u64 0, .int .u64 0, .int .u64 0, .int .u64 0, .bool false, .bool false, .slice none 0 0, .slice none 0 0, .slice none 0 0, .int .u64 (((((msgsOf hW0)[1]).head).id).version), .I (((((msgsOf hW0)[1]).head).id).index), .int .u64 (((((msgsOf hW0)[1]).head).id).epoch), .I ((((msgsOf hW0)[1]).head).kk), .I ((((msgsOf hW0)[1]).head).nn), .I ((((msgsOf hW0)[1]).head).size), .int .u32 ((((((msgsOf hW0)[1]).head).sum).toNat : Nat) : Int), .slice none 0 0, .int .u64 0, .int .u64 0, .I 0, .string (⟨#[]⟩), .I 0, .slice none 0 0]] (got_spec (W := hW0) (wr_mkV u64a u64a ⟨rfl, by first | assumption | (simp [maxLen]; done) | decide⟩ (H.rp 13 rfl) (H.rp 12 rfl) (H.rp 11 rfl) (H.rp 10 rfl) i64a i64a i64a) 10 2 (⟨((((msgsOf hW0)[1]).head).id), (((msgsOf hW0)[1]).head).kk, (((msgsOf hW0)[1]).head).nn, (((msgsOf hW0)[1]).head).size, (((msgsOf hW0)[1]).head).sum⟩) false (.I 0) (.int .u64 0) (.int .u64 0) (.int .u64 0) (.int .u64 0) (.int .u64 0) (.bool false) (.slice none 0 0) (.slice none 0 0) (.slice none 0 0) (.slice none 0 0) (.int .u64 0) (.int .u64 0) (.I 0) (.string (⟨#[]⟩)) (.I 0) (.slice none 0 0) (by first | assumption | omega)) ?_
      rintro _ w231 hE232 ⟨cs235, D234, D236, rfl, hr237, hlaw233⟩
      have H0s := H
      obtain ⟨a3q238, k3q238, a4q238, k4q238, a5q238, k5q238, a6q238, k6q238, rfl, hf239, hf240, hf241, hf242, hf243, hf244, hf245, hf246, hf247, hf248⟩ := wr_open hr237
      have H := H.addN hE232 (F := Rp (Shape.slice hdrS) [.slice a3q238 D234.heads.length k3q238] D234.heads) hf242
      have H := H.add (F := Rp (Shape.slice SB) [.slice a4q238 D234.chunks.length k4q238] D234.chunks) ((H0s.addN hE232 (F := Rp (Shape.slice SB) [.slice a4q238 D234.chunks.length k4q238] D234.chunks) hf243).rp 0 rfl)
      have H := H.add (F := Rp (Shape.slice (Shape.int .i64)) [.slice a5q238 D234.nodes.length k5q238] D234.nodes) ((H0s.addN hE232 (F := Rp (Shape.slice (Shape.int .i64)) [.slice a5q238 D234.nodes.length k5q238] D234.nodes) hf244).rp 0 rfl)
      have H := H.add (F := Rp (Shape.slice (Shape.int .i64)) [.slice a6q238 D234.acks.length k6q238] D234.acks) ((H0s.addN hE232 (F := Rp (Shape.slice (Shape.int .i64)) [.slice a6q238 D234.acks.length k6q238] D234.acks) hf245).rp 0 rfl)
      have hkpD234 := gotOf_keep hlaw233
      have hlkD234 := congrArg List.length hkpD234.1
      intro hS
      refine qHP hS 3 [(10, .seq), (11, .seq), (12, .qui)] [(5, .I D108), (6, .P b186 0), (7, .I D172), (60, .agg (wrV D234 a3q238 k3q238 a4q238 k4q238 a5q238 k5q238 a6q238 k6q238).toArray), (61, .I D236)] ?_
      refine RH.chn hS ?_
      refine RW.newC (κ := .chn) (d := some 8) (r := []) (o := .cells (wrZ).toArray 32 (0, 0)) (v := fun b => .P b 0) (fun b => by as_aux_lemma => kernel_rfl) (nofun) H ?_
      intro b250 w251 hnw249 H
      have hnb252 := Nat.le_trans hS.size hnw249
      intro hS
      refine RH.sto ?_
      refine RW.storeC (d := none) (r := []) (T := 32) (b := b250) (k := 0) (v := .agg (wrV D234 a3q238 k3q238 a4q238 k4q238 a5q238 k5q238 a6q238 k6q238).toArray) (c' := (wrV D234 a3q238 k3q238 a4q238 k4q238 a5q238 k5q238 a6q238 k6q238).toArray) (M' := [(b250, .cells (wrV D234 a3q238 k3q238 a4q238 k4q238 a5q238 k5q238 a6q238 k6q238).toArray 32 (0, 0)), (b186, .cells (wrV D170 a3q174 k3q174 a4q174 k4q174 a5q174 k5q174 a6q174 k6q174).toArray 32 (0, 0)), (b23, .cells (wrV hW0 a3q12 k3q12 a4q12 k4q12 a5q12 k5q12 a6q12 k6q12).toArray 32 (0, 0))]) (by as_aux_lemma => kernel_rfl) H 0 rfl (by as_aux_lemma => kernel_rfl) (by as_aux_lemma => kernel_rfl) ?_
      intro w254 hch253 H
      have hS255 := hS.sto hch253 (.inl hnb252)
      refine ⟨hS255, ?_⟩
      have hS := hS255
      refine RH.fin hS 1 [5, 6, 7, 9] [(5, .I D108), (6, .P b186 0), (7, .I D172), (9, .I D236)] (by as_aux_lemma => kernel_rfl) ?_
      refine qR 1 [.c [6, 0], .c [7]] [(5, .I D108), (6, .P b186 0), (7, .I D172), (9, .I D236)] ?_
      have H := H.dropM 2
      have H := H.dropM 0
      have H := H.pick [10, 11, 12, 13] rfl
      refine qG (sq 0 17) ?_
      refine qP 3 (sq 3 17) [(6, .P b186 0), (7, .I D172), (9, .I D236), (64, .bool (D108 == 0))] ?_
      refine tE (fun b_ => [(6, .P b186 0), (7, .I D172), (9, .I D236), (64, .bool b_)]) D108 0 (fun h256 => ?_) (fun h256 => ?_)
      ·
       refine qP 4 (sq 7 17) [(6, .P b186 0), (9, .I D236), (68, .bool (D172 == 1))] ?_
       refine tE (fun b_ => [(6, .P b186 0), (9, .I D236), (68, .bool b_)]) D172 1 (fun h257 => ?_) (fun h257 => ?_)
       ·
        refine qP 4 (sq 11 17) [(6, .P b186 0), (72, .bool (D236 == 2))] ?_
        refine tE (fun b_ => [(6, .P b186 0), (72, .bool b_)]) D236 2 (fun h258 => ?_) (fun h258 => ?_)
        ·
         refine qL .seq 73 (sq 12 17) 32 b186 0 0 (.agg (wrV D170 a3q174 k3q174 a4q174 k4q174 a5q174 k5q174 a6q174 k6q174).toArray) (H.cells 0 rfl) ?_
         -- call
         refine qK .seq (some 74) (sq 13 17) 27 #[.agg (wrV D170 a3q174 k3q174 a4q174 k4q174 a5q174 k5q174 a6q174 k6q174).toArray] (settle_spec (W := D170) (wr_mkV u64a u64a ⟨rfl, by first | assumption | (simp [maxLen]; done) | decide⟩ (H.rp 3 rfl) (H.rp 2 rfl) (H.rp 1 rfl) (H.rp 0 rfl) i64a i64a i64a) (by first | assumption | omega)) ?_
         rintro _ w259 hE260 ⟨a263, c264, D262, rfl, hr265, hlaw261⟩
         have H0s := H
         have H := H.addN hE260 (F := Rp (Shape.slice msgS) [.slice a263 D262.length c264] D262) hr265
         refine qF 4 [(0, .bool (((D262.length : Nat) : Int) == 2))] ?_
         refine qT (.bool (((D262.length : Nat) : Int) == 2)) Try.func22 ?_
         have hD9 := congrArg Prod.fst hlaw105
         simp only [] at hD9
         have hD8 := congrArg Prod.fst hlaw169
         simp only [] at hD8
         rw [hD9] at hD8
         have hL9 : D262.length = 2 := by rw [hlaw261, hD8]; kernel_rfl
         refine ⟨_, rfl, H.done, ?_⟩
         rw [hL9]; rfl
        ·
         exact absurd ((congrArg Prod.snd hlaw233).trans (by kernel_rfl) : _ = (2 : Int)) h258
       ·
        have hD9 := congrArg Prod.fst hlaw105
        simp only [] at hD9
        rw [hD9] at hlaw169
        exact absurd ((congrArg Prod.snd hlaw169).trans (by kernel_rfl) : _ = (1 : Int)) h257
      ·
       exact absurd ((congrArg Prod.snd hlaw105).trans (by kernel_rfl) : _ = (0 : Int)) h256
     ·
      refine RG.leaf' [(10, .seq), (6, .seq), (7, .qui), (8, .qui), (9, .qui), (11, .seq), (12, .qui)] (by as_aux_lemma => kernel_rfl) ?_
      have Hr := H
      refine RH.chn hS ?_
      refine RW.newC (κ := .chn) (d := some 8) (r := []) (o := .cells (wrZ).toArray 32 (0, 0)) (v := fun b => .P b 0) (fun b => by as_aux_lemma => kernel_rfl) (nofun) H ?_
      intro b267 w268 hnw266 H
      have hnb269 := Nat.le_trans hS.size hnw266
      intro hS
      refine RH.chn hS ?_
      -- call
      refine qK .chn (some 59) [] 23 #[.agg (wrV hW0 a3q12 k3q12 a4q12 k4q12 a5q12 k5q12 a6q12 k6q12).toArray, .agg #[.I 10, .I 2, .I 0, .int .u64 0, .int .u64 0, .int .u64 0, .int .u64 0, .int .u64 0, .bool false, .bool false, .slice none 0 0, .slice none 0 0, .slice none 0 0, .int .u64 (((((msgsOf hW0)[1]).head).id).version), .I (((((msgsOf hW0)[1]).head).id).index), .int .u64 (((((msgsOf hW0)[1]).head).id).epoch), .I ((((msgsOf hW0)[1]).head).kk), .I ((((msgsOf hW0)[1]).head).nn), .I ((((msgsOf hW0)[1]).head).size), .int .u32 ((((((msgsOf hW0)[1]).head).sum).toNat : Nat) : Int), .slice none 0 0, .int .u64 0, .int .u64 0, .I 0, .string (⟨#[]⟩), .I 0, .slice none 0 0]] (got_spec (W := hW0) (wr_mkV u64a u64a ⟨rfl, by first | assumption | (simp [maxLen]; done) | decide⟩ (H.rp 13 rfl) (H.rp 12 rfl) (H.rp 11 rfl) (H.rp 10 rfl) i64a i64a i64a) 10 2 (⟨((((msgsOf hW0)[1]).head).id), (((msgsOf hW0)[1]).head).kk, (((msgsOf hW0)[1]).head).nn, (((msgsOf hW0)[1]).head).size, (((msgsOf hW0)[1]).head).sum⟩) false (.I 0) (.int .u64 0) (.int .u64 0) (.int .u64 0) (.int .u64 0) (.int .u64 0) (.bool false) (.slice none 0 0) (.slice none 0 0) (.slice none 0 0) (.slice none 0 0) (.int .u64 0) (.int .u64 0) (.I 0) (.string (⟨#[]⟩)) (.I 0) (.slice none 0 0) (by first | assumption | omega)) ?_
      rintro _ w271 hE272 ⟨cs275, D274, D276, rfl, hr277, hlaw273⟩
      have H0s := H
      obtain ⟨a3q278, k3q278, a4q278, k4q278, a5q278, k5q278, a6q278, k6q278, rfl, hf279, hf280, hf281, hf282, hf283, hf284, hf285, hf286, hf287, hf288⟩ := wr_open hr277
      have H := H.addN hE272 (F := Rp (Shape.slice hdrS) [.slice a3q278 D274.heads.length k3q278] D274.heads) hf282
      have H := H.add (F := Rp (Shape.slice SB) [.slice a4q278 D274.chunks.length k4q278] D274.chunks) ((H0s.addN hE272 (F := Rp (Shape.slice SB) [.slice a4q278 D274.chunks.length k4q278] D274.chunks) hf283).rp 0 rfl)
      have H := H.add (F := Rp (Shape.slice (Shape.int .i64)) [.slice a5q278 D274.nodes.length k5q278] D274.nodes) ((H0s.addN hE272 (F := Rp (Shape.slice (Shape.int .i64)) [.slice a5q278 D274.nodes.length k5q278] D274.nodes) hf284).rp 0 rfl)
      have H := H.add (F := Rp (Shape.slice (Shape.int .i64)) [.slice a6q278 D274.acks.length k6q278] D274.acks) ((H0s.addN hE272 (F := Rp (Shape.slice (Shape.int .i64)) [.slice a6q278 D274.acks.length k6q278] D274.acks) hf285).rp 0 rfl)
      have hkpD274 := gotOf_keep hlaw273
      have hlkD274 := congrArg List.length hkpD274.1
      intro hS
      refine qHP hS 3 [(11, .seq), (12, .qui)] [(5, .I D108), (6, .P b186 0), (7, .I D172), (8, .P b267 0), (60, .agg (wrV D274 a3q278 k3q278 a4q278 k4q278 a5q278 k5q278 a6q278 k6q278).toArray), (61, .I D276)] ?_
      refine RH.sto ?_
      refine RW.storeC (d := none) (r := []) (T := 32) (b := b267) (k := 0) (v := .agg (wrV D274 a3q278 k3q278 a4q278 k4q278 a5q278 k5q278 a6q278 k6q278).toArray) (c' := (wrV D274 a3q278 k3q278 a4q278 k4q278 a5q278 k5q278 a6q278 k6q278).toArray) (M' := [(b267, .cells (wrV D274 a3q278 k3q278 a4q278 k4q278 a5q278 k5q278 a6q278 k6q278).toArray 32 (0, 0)), (b186, .cells (wrV D170 a3q174 k3q174 a4q174 k4q174 a5q174 k5q174 a6q174 k6q174).toArray 32 (0, 0)), (b23, .cells (wrV hW0 a3q12 k3q12 a4q12 k4q12 a5q12 k5q12 a6q12 k6q12).toArray 32 (0, 0))]) (by as_aux_lemma => kernel_rfl) H 0 rfl (by as_aux_lemma => kernel_rfl) (by as_aux_lemma => kernel_rfl) ?_
      intro w290 hch289 H
      have hS291 := hS.sto hch289 (.inl hnb269)
      refine ⟨hS291, ?_⟩
      have hS := hS291
      refine RH.fin hS 1 [5, 6, 7, 9] [(5, .I D108), (6, .P b186 0), (7, .I D172), (9, .I D276)] (by as_aux_lemma => kernel_rfl) ?_
      refine qR 1 [.c [6, 0], .c [7]] [(5, .I D108), (6, .P b186 0), (7, .I D172), (9, .I D276)] ?_
      have H := H.dropM 2
      have H := H.dropM 0
      have H := H.pick [10, 11, 12, 13] rfl
      refine qG (sq 0 17) ?_
      refine qP 3 (sq 3 17) [(6, .P b186 0), (7, .I D172), (9, .I D276), (64, .bool (D108 == 0))] ?_
      refine tE (fun b_ => [(6, .P b186 0), (7, .I D172), (9, .I D276), (64, .bool b_)]) D108 0 (fun h292 => ?_) (fun h292 => ?_)
      ·
       refine qP 4 (sq 7 17) [(6, .P b186 0), (9, .I D276), (68, .bool (D172 == 1))] ?_
       refine tE (fun b_ => [(6, .P b186 0), (9, .I D276), (68, .bool b_)]) D172 1 (fun h293 => ?_) (fun h293 => ?_)
       ·
        refine qP 4 (sq 11 17) [(6, .P b186 0), (72, .bool (D276 == 2))] ?_
        refine tE (fun b_ => [(6, .P b186 0), (72, .bool b_)]) D276 2 (fun h294 => ?_) (fun h294 => ?_)
        ·
         refine qL .seq 73 (sq 12 17) 32 b186 0 0 (.agg (wrV D170 a3q174 k3q174 a4q174 k4q174 a5q174 k5q174 a6q174 k6q174).toArray) (H.cells 0 rfl) ?_
         -- call
         refine qK .seq (some 74) (sq 13 17) 27 #[.agg (wrV D170 a3q174 k3q174 a4q174 k4q174 a5q174 k5q174 a6q174 k6q174).toArray] (settle_spec (W := D170) (wr_mkV u64a u64a ⟨rfl, by first | assumption | (simp [maxLen]; done) | decide⟩ (H.rp 3 rfl) (H.rp 2 rfl) (H.rp 1 rfl) (H.rp 0 rfl) i64a i64a i64a) (by first | assumption | omega)) ?_
         rintro _ w295 hE296 ⟨a299, c300, D298, rfl, hr301, hlaw297⟩
         have H0s := H
         have H := H.addN hE296 (F := Rp (Shape.slice msgS) [.slice a299 D298.length c300] D298) hr301
         refine qF 4 [(0, .bool (((D298.length : Nat) : Int) == 2))] ?_
         refine qT (.bool (((D298.length : Nat) : Int) == 2)) Try.func22 ?_
         have hD9 := congrArg Prod.fst hlaw105
         simp only [] at hD9
         have hD8 := congrArg Prod.fst hlaw169
         simp only [] at hD8
         rw [hD9] at hD8
         have hL9 : D298.length = 2 := by rw [hlaw297, hD8]; kernel_rfl
         refine ⟨_, rfl, H.done, ?_⟩
         rw [hL9]; rfl
        ·
         exact absurd ((congrArg Prod.snd hlaw273).trans (by kernel_rfl) : _ = (2 : Int)) h294
       ·
        have hD9 := congrArg Prod.fst hlaw105
        simp only [] at hD9
        rw [hD9] at hlaw169
        exact absurd ((congrArg Prod.snd hlaw169).trans (by kernel_rfl) : _ = (1 : Int)) h293
      ·
       exact absurd ((congrArg Prod.snd hlaw105).trans (by kernel_rfl) : _ = (0 : Int)) h292
    ·
     refine RG.leaf' [(10, .seq), (6, .seq), (7, .qui), (8, .qui), (9, .qui), (11, .seq), (12, .qui)] (by as_aux_lemma => kernel_rfl) ?_
     have Hr := H
     refine RH.chn hS ?_
     refine RW.newC (κ := .chn) (d := some 6) (r := []) (o := .cells (wrZ).toArray 32 (0, 0)) (v := fun b => .P b 0) (fun b => by as_aux_lemma => kernel_rfl) (nofun) H ?_
     intro b303 w304 hnw302 H
     have hnb305 := Nat.le_trans hS.size hnw302
     intro hS
     refine RH.chn hS ?_
     -- call
     refine qK .chn (some 49) [] 23 #[.agg (wrV D106 a3q110 k3q110 a4q110 k4q110 a5q110 k5q110 a6q110 k6q110).toArray, .agg #[.I 10, .I 2, .I 0, .int .u64 0, .int .u64 0, .int .u64 0, .int .u64 0, .int .u64 0, .bool true, .bool false, .slice none 0 0, .slice none 0 0, .slice none 0 0, .int .u64 (((((msgsOf hW0)[1]).head).id).version), .I (((((msgsOf hW0)[1]).head).id).index), .int .u64 (((((msgsOf hW0)[1]).head).id).epoch), .I ((((msgsOf hW0)[1]).head).kk), .I ((((msgsOf hW0)[1]).head).nn), .I ((((msgsOf hW0)[1]).head).size), .int .u32 ((((((msgsOf hW0)[1]).head).sum).toNat : Nat) : Int), .slice none 0 0, .int .u64 0, .int .u64 0, .I 0, .string (⟨#[]⟩), .I 0, .slice none 0 0]] (got_spec (W := D106) (wr_mkV u64a u64a ⟨rfl, by first | assumption | (simp [maxLen]; done) | decide⟩ (H.rp 9 rfl) (H.rp 8 rfl) (H.rp 7 rfl) (H.rp 6 rfl) i64a i64a i64a) 10 2 (⟨((((msgsOf hW0)[1]).head).id), (((msgsOf hW0)[1]).head).kk, (((msgsOf hW0)[1]).head).nn, (((msgsOf hW0)[1]).head).size, (((msgsOf hW0)[1]).head).sum⟩) true (.I 0) (.int .u64 0) (.int .u64 0) (.int .u64 0) (.int .u64 0) (.int .u64 0) (.bool false) (.slice none 0 0) (.slice none 0 0) (.slice none 0 0) (.slice none 0 0) (.int .u64 0) (.int .u64 0) (.I 0) (.string (⟨#[]⟩)) (.I 0) (.slice none 0 0) (by first | assumption | omega)) ?_
     rintro _ w307 hE308 ⟨cs311, D310, D312, rfl, hr313, hlaw309⟩
     have H0s := H
     obtain ⟨a3q314, k3q314, a4q314, k4q314, a5q314, k5q314, a6q314, k6q314, rfl, hf315, hf316, hf317, hf318, hf319, hf320, hf321, hf322, hf323, hf324⟩ := wr_open hr313
     have H := H.addN hE308 (F := Rp (Shape.slice hdrS) [.slice a3q314 D310.heads.length k3q314] D310.heads) hf318
     have H := H.add (F := Rp (Shape.slice SB) [.slice a4q314 D310.chunks.length k4q314] D310.chunks) ((H0s.addN hE308 (F := Rp (Shape.slice SB) [.slice a4q314 D310.chunks.length k4q314] D310.chunks) hf319).rp 0 rfl)
     have H := H.add (F := Rp (Shape.slice (Shape.int .i64)) [.slice a5q314 D310.nodes.length k5q314] D310.nodes) ((H0s.addN hE308 (F := Rp (Shape.slice (Shape.int .i64)) [.slice a5q314 D310.nodes.length k5q314] D310.nodes) hf320).rp 0 rfl)
     have H := H.add (F := Rp (Shape.slice (Shape.int .i64)) [.slice a6q314 D310.acks.length k6q314] D310.acks) ((H0s.addN hE308 (F := Rp (Shape.slice (Shape.int .i64)) [.slice a6q314 D310.acks.length k6q314] D310.acks) hf321).rp 0 rfl)
     have hkpD310 := gotOf_keep hlaw309
     have hlkD310 := congrArg List.length hkpD310.1
     intro hS
     refine qHP hS 3 [(11, .seq), (12, .qui)] [(1, .P b23 0), (2, .slice a7 (msgsOf hW0).length c8), (5, .I D108), (6, .P b303 0), (50, .agg (wrV D310 a3q314 k3q314 a4q314 k4q314 a5q314 k5q314 a6q314 k6q314).toArray), (51, .I D312)] ?_
     refine RH.sto ?_
     refine RW.storeC (d := none) (r := []) (T := 32) (b := b303) (k := 0) (v := .agg (wrV D310 a3q314 k3q314 a4q314 k4q314 a5q314 k5q314 a6q314 k6q314).toArray) (c' := (wrV D310 a3q314 k3q314 a4q314 k4q314 a5q314 k5q314 a6q314 k6q314).toArray) (M' := [(b303, .cells (wrV D310 a3q314 k3q314 a4q314 k4q314 a5q314 k5q314 a6q314 k6q314).toArray 32 (0, 0)), (b122, .cells (wrV D106 a3q110 k3q110 a4q110 k4q110 a5q110 k5q110 a6q110 k6q110).toArray 32 (0, 0)), (b23, .cells (wrV hW0 a3q12 k3q12 a4q12 k4q12 a5q12 k5q12 a6q12 k6q12).toArray 32 (0, 0))]) (by as_aux_lemma => kernel_rfl) H 0 rfl (by as_aux_lemma => kernel_rfl) (by as_aux_lemma => kernel_rfl) ?_
     intro w326 hch325 H
     have hS327 := hS.sto hch325 (.inl hnb305)
     refine ⟨hS327, ?_⟩
     have hS := hS327
     refine RH.fin hS 1 [1, 2, 5, 6, 7] [(1, .P b23 0), (2, .slice a7 (msgsOf hW0).length c8), (5, .I D108), (6, .P b303 0), (7, .I D312)] (by as_aux_lemma => kernel_rfl) ?_
     refine qR 1 [.c [5, 0], .c [6]] [(1, .P b23 0), (2, .slice a7 (msgsOf hW0).length c8), (5, .I D108), (6, .P b303 0), (7, .I D312)] ?_
     have H := H.dropM 1
     have H := H.pick [0, 1, 2, 3, 14, 15, 16, 17, 18] rfl
     refine WK.drawH1 [] (.node (qs [0, 1, 2, 3, 4, 5]) (.cons 6 (.leaf [(7, .qui), (8, .qui), (9, .qui), (10, .seq), (11, .seq), (12, .qui)]) (.cons 10 (.leaf [(6, .seq), (7, .qui), (8, .qui), (9, .qui), (11, .seq), (12, .qui)]) .nil))) Try_mixed (by as_aux_lemma => kernel_rfl) (by as_aux_lemma => kernel_rfl) ?_
     intro w328 hw329
     have H := H.draw
     rw [← hw329] at H
     clear hw329
     have hS := Chg.refl w328 []
     refine RG.node' (qs [0, 1, 2, 3, 4, 5]) (by as_aux_lemma => kernel_rfl) ?_
     refine RH.load (d := some 53) (r := (qs [1, 2, 3, 4, 5])) (T := 32) (b := b23) (o' := 0) (k := 0) (v := .agg (wrV hW0 a3q12 k3q12 a4q12 k4q12 a5q12 k5q12 a6q12 k6q12).toArray) (by as_aux_lemma => kernel_rfl) hS (H.cells 1 rfl) (by simp) (by simp) rfl (by as_aux_lemma => kernel_rfl) ?_
     refine qHP hS 1 (qs [2, 3, 4, 5]) [(5, .I D108), (6, .P b303 0), (7, .I D312), (53, .agg (wrV hW0 a3q12 k3q12 a4q12 k4q12 a5q12 k5q12 a6q12 k6q12).toArray), (54, .slice a7 (msgsOf hW0).length c8)] ?_
     have hx330 : 1 < (msgsOf hW0).length := by rw [hW_len]; omega
     refine RH.index (d := some 55) (r := (qs [3, 4, 5])) (T := 33) (e := 57) (ik := .i64) (ix := 1) (sh := msgS) (x := (msgsOf hW0)[1]) (by as_aux_lemma => kernel_rfl) hS (by as_aux_lemma => kernel_rfl) H 8 rfl 1 (by omega) (List.getElem?_eq_getElem hx330) ?_
     intro b331 o332 es333 hr334 H
     obtain ⟨a10q335, k10q335, cs11q335, cs12q335, a13q335, k13q335, a19q335, k19q335, rfl, hf336, hf337, hf338, hf339, hf340, hf341, hf342, hf343, hf344, hf345, hf346, hf347, hf348, hf349, hf350, hf351, hf352, hf353⟩ := msg_open hr334
     obtain ⟨a0q354, k0q354, a1q354, k1q354, rfl, hf355, hf356⟩ := conf_open hf345
     obtain ⟨cs0q357, rfl, hf358, hf359, hf360, hf361⟩ := hdr_open hf346
     obtain ⟨rfl, hf363, hf364, hf365⟩ := cid_open hf358
     have H := H.add (F := Rp (Shape.slice entS) [.slice a10q335 (((msgsOf hW0)[1]).entries.length) k10q335] (((msgsOf hW0)[1]).entries)) hf344
     have H := H.add (F := Rp (Shape.slice (Shape.int .i64)) [.slice a0q354 ((((msgsOf hW0)[1]).conf).voters.length) k0q354] ((((msgsOf hW0)[1]).conf).voters)) hf355
     have H := H.add (F := Rp (Shape.slice (Shape.int .i64)) [.slice a1q354 ((((msgsOf hW0)[1]).conf).learners.length) k1q354] ((((msgsOf hW0)[1]).conf).learners)) hf356
     have H := H.add (F := Rp SB [.slice a13q335 (((msgsOf hW0)[1]).data.length) k13q335] (((msgsOf hW0)[1]).data)) hf347
     have H := H.add (F := Rp (Shape.slice Shape.str) [.slice a19q335 (((msgsOf hW0)[1]).names.length) k19q335] (((msgsOf hW0)[1]).names)) hf353
     refine qHP hS 1 (qs [4, 5]) [(5, .I D108), (6, .P b303 0), (7, .I D312), (53, .agg (wrV hW0 a3q12 k3q12 a4q12 k4q12 a5q12 k5q12 a6q12 k6q12).toArray), (56, .pointer (some ⟨b331, o332 + 13, none⟩))] ?_
     refine RH.load (d := some 57) (r := [(5, .qui)]) (T := 53) (b := b331) (o' := o332 + 13) (k := 13) (v := .agg (hdrV (((msgsOf hW0)[1]).head)).toArray) (by as_aux_lemma => kernel_rfl) hS (H.fc 5 rfl) (by simp) (by simp) rfl (by as_aux_lemma => kernel_rfl) ?_
     refine RH.finB hS 1 [5, 6, 7, 53, 58] [(5, .I D108), (6, .P b303 0), (7, .I D312), (53, .agg (wrV hW0 a3q12 k3q12 a4q12 k4q12 a5q12 k5q12 a6q12 k6q12).toArray), (58, .agg #[.I 10, .I 2, .I 0, .int .u64 0, .int .u64 0, .int .u64 0, .int .u64 0, .int .u64 0, .bool false, .bool false, .slice none 0 0, .slice none 0 0, .slice none 0 0, .int .u64 (((((msgsOf hW0)[1]).head).id).version), .I (((((msgsOf hW0)[1]).head).id).index), .int .u64 (((((msgsOf hW0)[1]).head).id).epoch), .I ((((msgsOf hW0)[1]).head).kk), .I ((((msgsOf hW0)[1]).head).nn), .I ((((msgsOf hW0)[1]).head).size), .int .u32 ((((((msgsOf hW0)[1]).head).sum).toNat : Nat) : Int), .slice none 0 0, .int .u64 0, .int .u64 0, .I 0, .string (⟨#[]⟩), .I 0, .slice none 0 0])] (by as_aux_lemma => kernel_rfl) ?_
     refine (RGB.cons' ?_ (RGB.cons' ?_ RGB.nil'))
     ·
      refine RG.leaf' [(6, .seq), (7, .qui), (8, .qui), (9, .qui), (10, .seq), (11, .seq), (12, .qui)] (by as_aux_lemma => kernel_rfl) ?_
      have Hr := H
      refine RH.chn hS ?_
      -- call
      refine qK .chn (some 59) [] 23 #[.agg (wrV hW0 a3q12 k3q12 a4q12 k4q12 a5q12 k5q12 a6q12 k6q12).toArray, .agg #[.I 10, .I 2, .I 0, .int .u64 0, .int .u64 0, .int .u64 0, .int .u64 0, .int .u64 0, .bool false, .bool false, .slice none 0 0, .slice none 0 0, .slice none 0 0, .int .u64 (((((msgsOf hW0)[1]).head).id).version), .I (((((msgsOf hW0)[1]).head).id).index), .int .u64 (((((msgsOf hW0)[1]).head).id).epoch), .I ((((msgsOf hW0)[1]).head).kk), .I ((((msgsOf hW0)[1]).head).nn), .I ((((msgsOf hW0)[1]).head).size), .int .u32 ((((((msgsOf hW0)[1]).head).sum).toNat : Nat) : Int), .slice none 0 0, .int .u64 0, .int .u64 0, .I 0, .string (⟨#[]⟩), .I 0, .slice none 0 0]] (got_spec (W := hW0) (wr_mkV u64a u64a ⟨rfl, by first | assumption | (simp [maxLen]; done) | decide⟩ (H.rp 13 rfl) (H.rp 12 rfl) (H.rp 11 rfl) (H.rp 10 rfl) i64a i64a i64a) 10 2 (⟨((((msgsOf hW0)[1]).head).id), (((msgsOf hW0)[1]).head).kk, (((msgsOf hW0)[1]).head).nn, (((msgsOf hW0)[1]).head).size, (((msgsOf hW0)[1]).head).sum⟩) false (.I 0) (.int .u64 0) (.int .u64 0) (.int .u64 0) (.int .u64 0) (.int .u64 0) (.bool false) (.slice none 0 0) (.slice none 0 0) (.slice none 0 0) (.slice none 0 0) (.int .u64 0) (.int .u64 0) (.I 0) (.string (⟨#[]⟩)) (.I 0) (.slice none 0 0) (by first | assumption | omega)) ?_
      rintro _ w367 hE368 ⟨cs371, D370, D372, rfl, hr373, hlaw369⟩
      have H0s := H
      obtain ⟨a3q374, k3q374, a4q374, k4q374, a5q374, k5q374, a6q374, k6q374, rfl, hf375, hf376, hf377, hf378, hf379, hf380, hf381, hf382, hf383, hf384⟩ := wr_open hr373
      have H := H.addN hE368 (F := Rp (Shape.slice hdrS) [.slice a3q374 D370.heads.length k3q374] D370.heads) hf378
      have H := H.add (F := Rp (Shape.slice SB) [.slice a4q374 D370.chunks.length k4q374] D370.chunks) ((H0s.addN hE368 (F := Rp (Shape.slice SB) [.slice a4q374 D370.chunks.length k4q374] D370.chunks) hf379).rp 0 rfl)
      have H := H.add (F := Rp (Shape.slice (Shape.int .i64)) [.slice a5q374 D370.nodes.length k5q374] D370.nodes) ((H0s.addN hE368 (F := Rp (Shape.slice (Shape.int .i64)) [.slice a5q374 D370.nodes.length k5q374] D370.nodes) hf380).rp 0 rfl)
      have H := H.add (F := Rp (Shape.slice (Shape.int .i64)) [.slice a6q374 D370.acks.length k6q374] D370.acks) ((H0s.addN hE368 (F := Rp (Shape.slice (Shape.int .i64)) [.slice a6q374 D370.acks.length k6q374] D370.acks) hf381).rp 0 rfl)
      have hkpD370 := gotOf_keep hlaw369
      have hlkD370 := congrArg List.length hkpD370.1
      intro hS
      refine qHP hS 3 [(10, .seq), (11, .seq), (12, .qui)] [(5, .I D108), (6, .P b303 0), (7, .I D312), (60, .agg (wrV D370 a3q374 k3q374 a4q374 k4q374 a5q374 k5q374 a6q374 k6q374).toArray), (61, .I D372)] ?_
      refine RH.chn hS ?_
      refine RW.newC (κ := .chn) (d := some 8) (r := []) (o := .cells (wrZ).toArray 32 (0, 0)) (v := fun b => .P b 0) (fun b => by as_aux_lemma => kernel_rfl) (nofun) H ?_
      intro b386 w387 hnw385 H
      have hnb388 := Nat.le_trans hS.size hnw385
      intro hS
      refine RH.sto ?_
      refine RW.storeC (d := none) (r := []) (T := 32) (b := b386) (k := 0) (v := .agg (wrV D370 a3q374 k3q374 a4q374 k4q374 a5q374 k5q374 a6q374 k6q374).toArray) (c' := (wrV D370 a3q374 k3q374 a4q374 k4q374 a5q374 k5q374 a6q374 k6q374).toArray) (M' := [(b386, .cells (wrV D370 a3q374 k3q374 a4q374 k4q374 a5q374 k5q374 a6q374 k6q374).toArray 32 (0, 0)), (b303, .cells (wrV D310 a3q314 k3q314 a4q314 k4q314 a5q314 k5q314 a6q314 k6q314).toArray 32 (0, 0)), (b23, .cells (wrV hW0 a3q12 k3q12 a4q12 k4q12 a5q12 k5q12 a6q12 k6q12).toArray 32 (0, 0))]) (by as_aux_lemma => kernel_rfl) H 0 rfl (by as_aux_lemma => kernel_rfl) (by as_aux_lemma => kernel_rfl) ?_
      intro w390 hch389 H
      have hS391 := hS.sto hch389 (.inl hnb388)
      refine ⟨hS391, ?_⟩
      have hS := hS391
      refine RH.fin hS 1 [5, 6, 7, 9] [(5, .I D108), (6, .P b303 0), (7, .I D312), (9, .I D372)] (by as_aux_lemma => kernel_rfl) ?_
      refine qR 1 [.c [6, 0], .c [7]] [(5, .I D108), (6, .P b303 0), (7, .I D312), (9, .I D372)] ?_
      have H := H.dropM 2
      have H := H.dropM 0
      have H := H.pick [10, 11, 12, 13] rfl
      refine qG (sq 0 17) ?_
      refine qP 3 (sq 3 17) [(6, .P b303 0), (7, .I D312), (9, .I D372), (64, .bool (D108 == 0))] ?_
      refine tE (fun b_ => [(6, .P b303 0), (7, .I D312), (9, .I D372), (64, .bool b_)]) D108 0 (fun h392 => ?_) (fun h392 => ?_)
      ·
       refine qP 4 (sq 7 17) [(6, .P b303 0), (9, .I D372), (68, .bool (D312 == 1))] ?_
       refine tE (fun b_ => [(6, .P b303 0), (9, .I D372), (68, .bool b_)]) D312 1 (fun h393 => ?_) (fun h393 => ?_)
       ·
        refine qP 4 (sq 11 17) [(6, .P b303 0), (72, .bool (D372 == 2))] ?_
        refine tE (fun b_ => [(6, .P b303 0), (72, .bool b_)]) D372 2 (fun h394 => ?_) (fun h394 => ?_)
        ·
         refine qL .seq 73 (sq 12 17) 32 b303 0 0 (.agg (wrV D310 a3q314 k3q314 a4q314 k4q314 a5q314 k5q314 a6q314 k6q314).toArray) (H.cells 0 rfl) ?_
         -- call
         refine qK .seq (some 74) (sq 13 17) 27 #[.agg (wrV D310 a3q314 k3q314 a4q314 k4q314 a5q314 k5q314 a6q314 k6q314).toArray] (settle_spec (W := D310) (wr_mkV u64a u64a ⟨rfl, by first | assumption | (simp [maxLen]; done) | decide⟩ (H.rp 3 rfl) (H.rp 2 rfl) (H.rp 1 rfl) (H.rp 0 rfl) i64a i64a i64a) (by first | assumption | omega)) ?_
         rintro _ w395 hE396 ⟨a399, c400, D398, rfl, hr401, hlaw397⟩
         have H0s := H
         have H := H.addN hE396 (F := Rp (Shape.slice msgS) [.slice a399 D398.length c400] D398) hr401
         refine qF 4 [(0, .bool (((D398.length : Nat) : Int) == 2))] ?_
         refine qT (.bool (((D398.length : Nat) : Int) == 2)) Try.func22 ?_
         have hD9 := congrArg Prod.fst hlaw105
         simp only [] at hD9
         have hD8 := congrArg Prod.fst hlaw309
         simp only [] at hD8
         rw [hD9] at hD8
         have hL9 : D398.length = 2 := by rw [hlaw397, hD8]; kernel_rfl
         refine ⟨_, rfl, H.done, ?_⟩
         rw [hL9]; rfl
        ·
         exact absurd ((congrArg Prod.snd hlaw369).trans (by kernel_rfl) : _ = (2 : Int)) h394
       ·
        have hD9 := congrArg Prod.fst hlaw105
        simp only [] at hD9
        rw [hD9] at hlaw309
        exact absurd ((congrArg Prod.snd hlaw309).trans (by kernel_rfl) : _ = (1 : Int)) h393
      ·
       exact absurd ((congrArg Prod.snd hlaw105).trans (by kernel_rfl) : _ = (0 : Int)) h392
     ·
      refine RG.leaf' [(10, .seq), (6, .seq), (7, .qui), (8, .qui), (9, .qui), (11, .seq), (12, .qui)] (by as_aux_lemma => kernel_rfl) ?_
      have Hr := H
      refine RH.chn hS ?_
      refine RW.newC (κ := .chn) (d := some 8) (r := []) (o := .cells (wrZ).toArray 32 (0, 0)) (v := fun b => .P b 0) (fun b => by as_aux_lemma => kernel_rfl) (nofun) H ?_
      intro b403 w404 hnw402 H
      have hnb405 := Nat.le_trans hS.size hnw402
      intro hS
      refine RH.chn hS ?_
      -- call
      refine qK .chn (some 59) [] 23 #[.agg (wrV hW0 a3q12 k3q12 a4q12 k4q12 a5q12 k5q12 a6q12 k6q12).toArray, .agg #[.I 10, .I 2, .I 0, .int .u64 0, .int .u64 0, .int .u64 0, .int .u64 0, .int .u64 0, .bool false, .bool false, .slice none 0 0, .slice none 0 0, .slice none 0 0, .int .u64 (((((msgsOf hW0)[1]).head).id).version), .I (((((msgsOf hW0)[1]).head).id).index), .int .u64 (((((msgsOf hW0)[1]).head).id).epoch), .I ((((msgsOf hW0)[1]).head).kk), .I ((((msgsOf hW0)[1]).head).nn), .I ((((msgsOf hW0)[1]).head).size), .int .u32 ((((((msgsOf hW0)[1]).head).sum).toNat : Nat) : Int), .slice none 0 0, .int .u64 0, .int .u64 0, .I 0, .string (⟨#[]⟩), .I 0, .slice none 0 0]] (got_spec (W := hW0) (wr_mkV u64a u64a ⟨rfl, by first | assumption | (simp [maxLen]; done) | decide⟩ (H.rp 13 rfl) (H.rp 12 rfl) (H.rp 11 rfl) (H.rp 10 rfl) i64a i64a i64a) 10 2 (⟨((((msgsOf hW0)[1]).head).id), (((msgsOf hW0)[1]).head).kk, (((msgsOf hW0)[1]).head).nn, (((msgsOf hW0)[1]).head).size, (((msgsOf hW0)[1]).head).sum⟩) false (.I 0) (.int .u64 0) (.int .u64 0) (.int .u64 0) (.int .u64 0) (.int .u64 0) (.bool false) (.slice none 0 0) (.slice none 0 0) (.slice none 0 0) (.slice none 0 0) (.int .u64 0) (.int .u64 0) (.I 0) (.string (⟨#[]⟩)) (.I 0) (.slice none 0 0) (by first | assumption | omega)) ?_
      rintro _ w407 hE408 ⟨cs411, D410, D412, rfl, hr413, hlaw409⟩
      have H0s := H
      obtain ⟨a3q414, k3q414, a4q414, k4q414, a5q414, k5q414, a6q414, k6q414, rfl, hf415, hf416, hf417, hf418, hf419, hf420, hf421, hf422, hf423, hf424⟩ := wr_open hr413
      have H := H.addN hE408 (F := Rp (Shape.slice hdrS) [.slice a3q414 D410.heads.length k3q414] D410.heads) hf418
      have H := H.add (F := Rp (Shape.slice SB) [.slice a4q414 D410.chunks.length k4q414] D410.chunks) ((H0s.addN hE408 (F := Rp (Shape.slice SB) [.slice a4q414 D410.chunks.length k4q414] D410.chunks) hf419).rp 0 rfl)
      have H := H.add (F := Rp (Shape.slice (Shape.int .i64)) [.slice a5q414 D410.nodes.length k5q414] D410.nodes) ((H0s.addN hE408 (F := Rp (Shape.slice (Shape.int .i64)) [.slice a5q414 D410.nodes.length k5q414] D410.nodes) hf420).rp 0 rfl)
      have H := H.add (F := Rp (Shape.slice (Shape.int .i64)) [.slice a6q414 D410.acks.length k6q414] D410.acks) ((H0s.addN hE408 (F := Rp (Shape.slice (Shape.int .i64)) [.slice a6q414 D410.acks.length k6q414] D410.acks) hf421).rp 0 rfl)
      have hkpD410 := gotOf_keep hlaw409
      have hlkD410 := congrArg List.length hkpD410.1
      intro hS
      refine qHP hS 3 [(11, .seq), (12, .qui)] [(5, .I D108), (6, .P b303 0), (7, .I D312), (8, .P b403 0), (60, .agg (wrV D410 a3q414 k3q414 a4q414 k4q414 a5q414 k5q414 a6q414 k6q414).toArray), (61, .I D412)] ?_
      refine RH.sto ?_
      refine RW.storeC (d := none) (r := []) (T := 32) (b := b403) (k := 0) (v := .agg (wrV D410 a3q414 k3q414 a4q414 k4q414 a5q414 k5q414 a6q414 k6q414).toArray) (c' := (wrV D410 a3q414 k3q414 a4q414 k4q414 a5q414 k5q414 a6q414 k6q414).toArray) (M' := [(b403, .cells (wrV D410 a3q414 k3q414 a4q414 k4q414 a5q414 k5q414 a6q414 k6q414).toArray 32 (0, 0)), (b303, .cells (wrV D310 a3q314 k3q314 a4q314 k4q314 a5q314 k5q314 a6q314 k6q314).toArray 32 (0, 0)), (b23, .cells (wrV hW0 a3q12 k3q12 a4q12 k4q12 a5q12 k5q12 a6q12 k6q12).toArray 32 (0, 0))]) (by as_aux_lemma => kernel_rfl) H 0 rfl (by as_aux_lemma => kernel_rfl) (by as_aux_lemma => kernel_rfl) ?_
      intro w426 hch425 H
      have hS427 := hS.sto hch425 (.inl hnb405)
      refine ⟨hS427, ?_⟩
      have hS := hS427
      refine RH.fin hS 1 [5, 6, 7, 9] [(5, .I D108), (6, .P b303 0), (7, .I D312), (9, .I D412)] (by as_aux_lemma => kernel_rfl) ?_
      refine qR 1 [.c [6, 0], .c [7]] [(5, .I D108), (6, .P b303 0), (7, .I D312), (9, .I D412)] ?_
      have H := H.dropM 2
      have H := H.dropM 0
      have H := H.pick [10, 11, 12, 13] rfl
      refine qG (sq 0 17) ?_
      refine qP 3 (sq 3 17) [(6, .P b303 0), (7, .I D312), (9, .I D412), (64, .bool (D108 == 0))] ?_
      refine tE (fun b_ => [(6, .P b303 0), (7, .I D312), (9, .I D412), (64, .bool b_)]) D108 0 (fun h428 => ?_) (fun h428 => ?_)
      ·
       refine qP 4 (sq 7 17) [(6, .P b303 0), (9, .I D412), (68, .bool (D312 == 1))] ?_
       refine tE (fun b_ => [(6, .P b303 0), (9, .I D412), (68, .bool b_)]) D312 1 (fun h429 => ?_) (fun h429 => ?_)
       ·
        refine qP 4 (sq 11 17) [(6, .P b303 0), (72, .bool (D412 == 2))] ?_
        refine tE (fun b_ => [(6, .P b303 0), (72, .bool b_)]) D412 2 (fun h430 => ?_) (fun h430 => ?_)
        ·
         refine qL .seq 73 (sq 12 17) 32 b303 0 0 (.agg (wrV D310 a3q314 k3q314 a4q314 k4q314 a5q314 k5q314 a6q314 k6q314).toArray) (H.cells 0 rfl) ?_
         -- call
         refine qK .seq (some 74) (sq 13 17) 27 #[.agg (wrV D310 a3q314 k3q314 a4q314 k4q314 a5q314 k5q314 a6q314 k6q314).toArray] (settle_spec (W := D310) (wr_mkV u64a u64a ⟨rfl, by first | assumption | (simp [maxLen]; done) | decide⟩ (H.rp 3 rfl) (H.rp 2 rfl) (H.rp 1 rfl) (H.rp 0 rfl) i64a i64a i64a) (by first | assumption | omega)) ?_
         rintro _ w431 hE432 ⟨a435, c436, D434, rfl, hr437, hlaw433⟩
         have H0s := H
         have H := H.addN hE432 (F := Rp (Shape.slice msgS) [.slice a435 D434.length c436] D434) hr437
         refine qF 4 [(0, .bool (((D434.length : Nat) : Int) == 2))] ?_
         refine qT (.bool (((D434.length : Nat) : Int) == 2)) Try.func22 ?_
         have hD9 := congrArg Prod.fst hlaw105
         simp only [] at hD9
         have hD8 := congrArg Prod.fst hlaw309
         simp only [] at hD8
         rw [hD9] at hD8
         have hL9 : D434.length = 2 := by rw [hlaw433, hD8]; kernel_rfl
         refine ⟨_, rfl, H.done, ?_⟩
         rw [hL9]; rfl
        ·
         exact absurd ((congrArg Prod.snd hlaw409).trans (by kernel_rfl) : _ = (2 : Int)) h430
       ·
        have hD9 := congrArg Prod.fst hlaw105
        simp only [] at hD9
        rw [hD9] at hlaw309
        exact absurd ((congrArg Prod.snd hlaw309).trans (by kernel_rfl) : _ = (1 : Int)) h429
      ·
       exact absurd ((congrArg Prod.snd hlaw105).trans (by kernel_rfl) : _ = (0 : Int)) h428
   ·
    refine RG.leaf' [(10, .seq), (6, .seq), (7, .qui), (8, .qui), (9, .qui), (11, .seq), (12, .qui)] (by as_aux_lemma => kernel_rfl) ?_
    have Hr := H
    refine RH.chn hS ?_
    refine RW.newC (κ := .chn) (d := some 4) (r := []) (o := .cells (wrZ).toArray 32 (0, 0)) (v := fun b => .P b 0) (fun b => by as_aux_lemma => kernel_rfl) (nofun) H ?_
    intro b439 w440 hnw438 H
    have hnb441 := Nat.le_trans hS.size hnw438
    intro hS
    refine RH.chn hS ?_
    -- call
    refine qK .chn (some 39) [] 23 #[.agg (wrV hW0 a3q12 k3q12 a4q12 k4q12 a5q12 k5q12 a6q12 k6q12).toArray, .agg #[.I 10, .I 1, .I 0, .int .u64 0, .int .u64 0, .int .u64 0, .int .u64 0, .int .u64 0, .bool true, .bool false, .slice none 0 0, .slice none 0 0, .slice none 0 0, .int .u64 (((((msgsOf hW0)[0]).head).id).version), .I (((((msgsOf hW0)[0]).head).id).index), .int .u64 (((((msgsOf hW0)[0]).head).id).epoch), .I ((((msgsOf hW0)[0]).head).kk), .I ((((msgsOf hW0)[0]).head).nn), .I ((((msgsOf hW0)[0]).head).size), .int .u32 ((((((msgsOf hW0)[0]).head).sum).toNat : Nat) : Int), .slice none 0 0, .int .u64 0, .int .u64 0, .I 0, .string (⟨#[]⟩), .I 0, .slice none 0 0]] (got_spec (W := hW0) (wr_mkV u64a u64a ⟨rfl, by first | assumption | (simp [maxLen]; done) | decide⟩ (H.rp 9 rfl) (H.rp 8 rfl) (H.rp 7 rfl) (H.rp 6 rfl) i64a i64a i64a) 10 1 (⟨((((msgsOf hW0)[0]).head).id), (((msgsOf hW0)[0]).head).kk, (((msgsOf hW0)[0]).head).nn, (((msgsOf hW0)[0]).head).size, (((msgsOf hW0)[0]).head).sum⟩) true (.I 0) (.int .u64 0) (.int .u64 0) (.int .u64 0) (.int .u64 0) (.int .u64 0) (.bool false) (.slice none 0 0) (.slice none 0 0) (.slice none 0 0) (.slice none 0 0) (.int .u64 0) (.int .u64 0) (.I 0) (.string (⟨#[]⟩)) (.I 0) (.slice none 0 0) (by first | assumption | omega)) ?_
    rintro _ w443 hE444 ⟨cs447, D446, D448, rfl, hr449, hlaw445⟩
    have H0s := H
    obtain ⟨a3q450, k3q450, a4q450, k4q450, a5q450, k5q450, a6q450, k6q450, rfl, hf451, hf452, hf453, hf454, hf455, hf456, hf457, hf458, hf459, hf460⟩ := wr_open hr449
    have H := H.addN hE444 (F := Rp (Shape.slice hdrS) [.slice a3q450 D446.heads.length k3q450] D446.heads) hf454
    have H := H.add (F := Rp (Shape.slice SB) [.slice a4q450 D446.chunks.length k4q450] D446.chunks) ((H0s.addN hE444 (F := Rp (Shape.slice SB) [.slice a4q450 D446.chunks.length k4q450] D446.chunks) hf455).rp 0 rfl)
    have H := H.add (F := Rp (Shape.slice (Shape.int .i64)) [.slice a5q450 D446.nodes.length k5q450] D446.nodes) ((H0s.addN hE444 (F := Rp (Shape.slice (Shape.int .i64)) [.slice a5q450 D446.nodes.length k5q450] D446.nodes) hf456).rp 0 rfl)
    have H := H.add (F := Rp (Shape.slice (Shape.int .i64)) [.slice a6q450 D446.acks.length k6q450] D446.acks) ((H0s.addN hE444 (F := Rp (Shape.slice (Shape.int .i64)) [.slice a6q450 D446.acks.length k6q450] D446.acks) hf457).rp 0 rfl)
    have hkpD446 := gotOf_keep hlaw445
    have hlkD446 := congrArg List.length hkpD446.1
    intro hS
    refine qHP hS 3 [(11, .seq), (12, .qui)] [(1, .P b23 0), (2, .slice a7 (msgsOf hW0).length c8), (4, .P b439 0), (40, .agg (wrV D446 a3q450 k3q450 a4q450 k4q450 a5q450 k5q450 a6q450 k6q450).toArray), (41, .I D448)] ?_
    refine RH.sto ?_
    refine RW.storeC (d := none) (r := []) (T := 32) (b := b439) (k := 0) (v := .agg (wrV D446 a3q450 k3q450 a4q450 k4q450 a5q450 k5q450 a6q450 k6q450).toArray) (c' := (wrV D446 a3q450 k3q450 a4q450 k4q450 a5q450 k5q450 a6q450 k6q450).toArray) (M' := [(b439, .cells (wrV D446 a3q450 k3q450 a4q450 k4q450 a5q450 k5q450 a6q450 k6q450).toArray 32 (0, 0)), (b23, .cells (wrV hW0 a3q12 k3q12 a4q12 k4q12 a5q12 k5q12 a6q12 k6q12).toArray 32 (0, 0))]) (by as_aux_lemma => kernel_rfl) H 0 rfl (by as_aux_lemma => kernel_rfl) (by as_aux_lemma => kernel_rfl) ?_
    intro w462 hch461 H
    have hS463 := hS.sto hch461 (.inl hnb441)
    refine ⟨hS463, ?_⟩
    have hS := hS463
    refine RH.fin hS 1 [1, 2, 4, 5] [(1, .P b23 0), (2, .slice a7 (msgsOf hW0).length c8), (4, .P b439 0), (5, .I D448)] (by as_aux_lemma => kernel_rfl) ?_
    refine qR 1 [.c [4, 0], .c [5]] [(1, .P b23 0), (2, .slice a7 (msgsOf hW0).length c8), (4, .P b439 0), (5, .I D448)] ?_
    have H := H.pick [0, 1, 2, 3, 10, 11, 12, 13, 14] rfl
    refine WK.drawH1 [] (.node (qs [0, 1, 2, 3, 4, 5]) (.cons 6 (.leaf [(7, .qui), (8, .qui), (9, .qui), (10, .seq), (11, .seq), (12, .qui)]) (.cons 10 (.leaf [(6, .seq), (7, .qui), (8, .qui), (9, .qui), (11, .seq), (12, .qui)]) .nil))) Try_mixed (by as_aux_lemma => kernel_rfl) (by as_aux_lemma => kernel_rfl) ?_
    intro w464 hw465
    have H := H.draw
    rw [← hw465] at H
    clear hw465
    have hS := Chg.refl w464 []
    refine RG.node' (qs [0, 1, 2, 3, 4, 5]) (by as_aux_lemma => kernel_rfl) ?_
    refine RH.load (d := some 43) (r := (qs [1, 2, 3, 4, 5])) (T := 32) (b := b439) (o' := 0) (k := 0) (v := .agg (wrV D446 a3q450 k3q450 a4q450 k4q450 a5q450 k5q450 a6q450 k6q450).toArray) (by as_aux_lemma => kernel_rfl) hS (H.cells 0 rfl) (by simp) (by simp) rfl (by as_aux_lemma => kernel_rfl) ?_
    refine qHP hS 1 (qs [2, 3, 4, 5]) [(1, .P b23 0), (2, .slice a7 (msgsOf hW0).length c8), (5, .I D448), (43, .agg (wrV D446 a3q450 k3q450 a4q450 k4q450 a5q450 k5q450 a6q450 k6q450).toArray), (44, .slice a7 (msgsOf hW0).length c8)] ?_
    have hx466 : 1 < (msgsOf hW0).length := by rw [hW_len]; omega
    refine RH.index (d := some 45) (r := (qs [3, 4, 5])) (T := 33) (e := 57) (ik := .i64) (ix := 1) (sh := msgS) (x := (msgsOf hW0)[1]) (by as_aux_lemma => kernel_rfl) hS (by as_aux_lemma => kernel_rfl) H 8 rfl 1 (by omega) (List.getElem?_eq_getElem hx466) ?_
    intro b467 o468 es469 hr470 H
    obtain ⟨a10q471, k10q471, cs11q471, cs12q471, a13q471, k13q471, a19q471, k19q471, rfl, hf472, hf473, hf474, hf475, hf476, hf477, hf478, hf479, hf480, hf481, hf482, hf483, hf484, hf485, hf486, hf487, hf488, hf489⟩ := msg_open hr470
    obtain ⟨a0q490, k0q490, a1q490, k1q490, rfl, hf491, hf492⟩ := conf_open hf481
    obtain ⟨cs0q493, rfl, hf494, hf495, hf496, hf497⟩ := hdr_open hf482
    obtain ⟨rfl, hf499, hf500, hf501⟩ := cid_open hf494
    have H := H.add (F := Rp (Shape.slice entS) [.slice a10q471 (((msgsOf hW0)[1]).entries.length) k10q471] (((msgsOf hW0)[1]).entries)) hf480
    have H := H.add (F := Rp (Shape.slice (Shape.int .i64)) [.slice a0q490 ((((msgsOf hW0)[1]).conf).voters.length) k0q490] ((((msgsOf hW0)[1]).conf).voters)) hf491
    have H := H.add (F := Rp (Shape.slice (Shape.int .i64)) [.slice a1q490 ((((msgsOf hW0)[1]).conf).learners.length) k1q490] ((((msgsOf hW0)[1]).conf).learners)) hf492
    have H := H.add (F := Rp SB [.slice a13q471 (((msgsOf hW0)[1]).data.length) k13q471] (((msgsOf hW0)[1]).data)) hf483
    have H := H.add (F := Rp (Shape.slice Shape.str) [.slice a19q471 (((msgsOf hW0)[1]).names.length) k19q471] (((msgsOf hW0)[1]).names)) hf489
    refine qHP hS 1 (qs [4, 5]) [(1, .P b23 0), (2, .slice a7 (msgsOf hW0).length c8), (5, .I D448), (43, .agg (wrV D446 a3q450 k3q450 a4q450 k4q450 a5q450 k5q450 a6q450 k6q450).toArray), (46, .pointer (some ⟨b467, o468 + 13, none⟩))] ?_
    refine RH.load (d := some 47) (r := [(5, .qui)]) (T := 53) (b := b467) (o' := o468 + 13) (k := 13) (v := .agg (hdrV (((msgsOf hW0)[1]).head)).toArray) (by as_aux_lemma => kernel_rfl) hS (H.fc 5 rfl) (by simp) (by simp) rfl (by as_aux_lemma => kernel_rfl) ?_
    refine RH.finB hS 1 [1, 2, 5, 43, 48] [(1, .P b23 0), (2, .slice a7 (msgsOf hW0).length c8), (5, .I D448), (43, .agg (wrV D446 a3q450 k3q450 a4q450 k4q450 a5q450 k5q450 a6q450 k6q450).toArray), (48, .agg #[.I 10, .I 2, .I 0, .int .u64 0, .int .u64 0, .int .u64 0, .int .u64 0, .int .u64 0, .bool true, .bool false, .slice none 0 0, .slice none 0 0, .slice none 0 0, .int .u64 (((((msgsOf hW0)[1]).head).id).version), .I (((((msgsOf hW0)[1]).head).id).index), .int .u64 (((((msgsOf hW0)[1]).head).id).epoch), .I ((((msgsOf hW0)[1]).head).kk), .I ((((msgsOf hW0)[1]).head).nn), .I ((((msgsOf hW0)[1]).head).size), .int .u32 ((((((msgsOf hW0)[1]).head).sum).toNat : Nat) : Int), .slice none 0 0, .int .u64 0, .int .u64 0, .I 0, .string (⟨#[]⟩), .I 0, .slice none 0 0])] (by as_aux_lemma => kernel_rfl) ?_
    refine (RGB.cons' ?_ (RGB.cons' ?_ RGB.nil'))
    ·
     refine RG.leaf' [(6, .seq), (7, .qui), (8, .qui), (9, .qui), (10, .seq), (11, .seq), (12, .qui)] (by as_aux_lemma => kernel_rfl) ?_
     have Hr := H
     refine RH.chn hS ?_
     -- call
     refine qK .chn (some 49) [] 23 #[.agg (wrV D446 a3q450 k3q450 a4q450 k4q450 a5q450 k5q450 a6q450 k6q450).toArray, .agg #[.I 10, .I 2, .I 0, .int .u64 0, .int .u64 0, .int .u64 0, .int .u64 0, .int .u64 0, .bool true, .bool false, .slice none 0 0, .slice none 0 0, .slice none 0 0, .int .u64 (((((msgsOf hW0)[1]).head).id).version), .I (((((msgsOf hW0)[1]).head).id).index), .int .u64 (((((msgsOf hW0)[1]).head).id).epoch), .I ((((msgsOf hW0)[1]).head).kk), .I ((((msgsOf hW0)[1]).head).nn), .I ((((msgsOf hW0)[1]).head).size), .int .u32 ((((((msgsOf hW0)[1]).head).sum).toNat : Nat) : Int), .slice none 0 0, .int .u64 0, .int .u64 0, .I 0, .string (⟨#[]⟩), .I 0, .slice none 0 0]] (got_spec (W := D446) (wr_mkV u64a u64a ⟨rfl, by first | assumption | (simp [maxLen]; done) | decide⟩ (H.rp 9 rfl) (H.rp 8 rfl) (H.rp 7 rfl) (H.rp 6 rfl) i64a i64a i64a) 10 2 (⟨((((msgsOf hW0)[1]).head).id), (((msgsOf hW0)[1]).head).kk, (((msgsOf hW0)[1]).head).nn, (((msgsOf hW0)[1]).head).size, (((msgsOf hW0)[1]).head).sum⟩) true (.I 0) (.int .u64 0) (.int .u64 0) (.int .u64 0) (.int .u64 0) (.int .u64 0) (.bool false) (.slice none 0 0) (.slice none 0 0) (.slice none 0 0) (.slice none 0 0) (.int .u64 0) (.int .u64 0) (.I 0) (.string (⟨#[]⟩)) (.I 0) (.slice none 0 0) (by first | assumption | omega)) ?_
     rintro _ w503 hE504 ⟨cs507, D506, D508, rfl, hr509, hlaw505⟩
     have H0s := H
     obtain ⟨a3q510, k3q510, a4q510, k4q510, a5q510, k5q510, a6q510, k6q510, rfl, hf511, hf512, hf513, hf514, hf515, hf516, hf517, hf518, hf519, hf520⟩ := wr_open hr509
     have H := H.addN hE504 (F := Rp (Shape.slice hdrS) [.slice a3q510 D506.heads.length k3q510] D506.heads) hf514
     have H := H.add (F := Rp (Shape.slice SB) [.slice a4q510 D506.chunks.length k4q510] D506.chunks) ((H0s.addN hE504 (F := Rp (Shape.slice SB) [.slice a4q510 D506.chunks.length k4q510] D506.chunks) hf515).rp 0 rfl)
     have H := H.add (F := Rp (Shape.slice (Shape.int .i64)) [.slice a5q510 D506.nodes.length k5q510] D506.nodes) ((H0s.addN hE504 (F := Rp (Shape.slice (Shape.int .i64)) [.slice a5q510 D506.nodes.length k5q510] D506.nodes) hf516).rp 0 rfl)
     have H := H.add (F := Rp (Shape.slice (Shape.int .i64)) [.slice a6q510 D506.acks.length k6q510] D506.acks) ((H0s.addN hE504 (F := Rp (Shape.slice (Shape.int .i64)) [.slice a6q510 D506.acks.length k6q510] D506.acks) hf517).rp 0 rfl)
     have hkpD506 := gotOf_keep hlaw505
     have hlkD506 := congrArg List.length hkpD506.1
     intro hS
     refine qHP hS 3 [(10, .seq), (11, .seq), (12, .qui)] [(1, .P b23 0), (2, .slice a7 (msgsOf hW0).length c8), (5, .I D448), (50, .agg (wrV D506 a3q510 k3q510 a4q510 k4q510 a5q510 k5q510 a6q510 k6q510).toArray), (51, .I D508)] ?_
     refine RH.chn hS ?_
     refine RW.newC (κ := .chn) (d := some 6) (r := []) (o := .cells (wrZ).toArray 32 (0, 0)) (v := fun b => .P b 0) (fun b => by as_aux_lemma => kernel_rfl) (nofun) H ?_
     intro b522 w523 hnw521 H
     have hnb524 := Nat.le_trans hS.size hnw521
     intro hS
     refine RH.sto ?_
     refine RW.storeC (d := none) (r := []) (T := 32) (b := b522) (k := 0) (v := .agg (wrV D506 a3q510 k3q510 a4q510 k4q510 a5q510 k5q510 a6q510 k6q510).toArray) (c' := (wrV D506 a3q510 k3q510 a4q510 k4q510 a5q510 k5q510 a6q510 k6q510).toArray) (M' := [(b522, .cells (wrV D506 a3q510 k3q510 a4q510 k4q510 a5q510 k5q510 a6q510 k6q510).toArray 32 (0, 0)), (b439, .cells (wrV D446 a3q450 k3q450 a4q450 k4q450 a5q450 k5q450 a6q450 k6q450).toArray 32 (0, 0)), (b23, .cells (wrV hW0 a3q12 k3q12 a4q12 k4q12 a5q12 k5q12 a6q12 k6q12).toArray 32 (0, 0))]) (by as_aux_lemma => kernel_rfl) H 0 rfl (by as_aux_lemma => kernel_rfl) (by as_aux_lemma => kernel_rfl) ?_
     intro w526 hch525 H
     have hS527 := hS.sto hch525 (.inl hnb524)
     refine ⟨hS527, ?_⟩
     have hS := hS527
     refine RH.fin hS 1 [1, 2, 5, 6, 7] [(1, .P b23 0), (2, .slice a7 (msgsOf hW0).length c8), (5, .I D448), (6, .P b522 0), (7, .I D508)] (by as_aux_lemma => kernel_rfl) ?_
     refine qR 1 [.c [5, 0], .c [6]] [(1, .P b23 0), (2, .slice a7 (msgsOf hW0).length c8), (5, .I D448), (6, .P b522 0), (7, .I D508)] ?_
     have H := H.dropM 1
     have H := H.pick [0, 1, 2, 3, 14, 15, 16, 17, 18] rfl
     refine WK.drawH1 [] (.node (qs [0, 1, 2, 3, 4, 5]) (.cons 6 (.leaf [(7, .qui), (8, .qui), (9, .qui), (10, .seq), (11, .seq), (12, .qui)]) (.cons 10 (.leaf [(6, .seq), (7, .qui), (8, .qui), (9, .qui), (11, .seq), (12, .qui)]) .nil))) Try_mixed (by as_aux_lemma => kernel_rfl) (by as_aux_lemma => kernel_rfl) ?_
     intro w528 hw529
     have H := H.draw
     rw [← hw529] at H
     clear hw529
     have hS := Chg.refl w528 []
     refine RG.node' (qs [0, 1, 2, 3, 4, 5]) (by as_aux_lemma => kernel_rfl) ?_
     refine RH.load (d := some 53) (r := (qs [1, 2, 3, 4, 5])) (T := 32) (b := b23) (o' := 0) (k := 0) (v := .agg (wrV hW0 a3q12 k3q12 a4q12 k4q12 a5q12 k5q12 a6q12 k6q12).toArray) (by as_aux_lemma => kernel_rfl) hS (H.cells 1 rfl) (by simp) (by simp) rfl (by as_aux_lemma => kernel_rfl) ?_
     refine qHP hS 1 (qs [2, 3, 4, 5]) [(5, .I D448), (6, .P b522 0), (7, .I D508), (53, .agg (wrV hW0 a3q12 k3q12 a4q12 k4q12 a5q12 k5q12 a6q12 k6q12).toArray), (54, .slice a7 (msgsOf hW0).length c8)] ?_
     have hx530 : 1 < (msgsOf hW0).length := by rw [hW_len]; omega
     refine RH.index (d := some 55) (r := (qs [3, 4, 5])) (T := 33) (e := 57) (ik := .i64) (ix := 1) (sh := msgS) (x := (msgsOf hW0)[1]) (by as_aux_lemma => kernel_rfl) hS (by as_aux_lemma => kernel_rfl) H 8 rfl 1 (by omega) (List.getElem?_eq_getElem hx530) ?_
     intro b531 o532 es533 hr534 H
     obtain ⟨a10q535, k10q535, cs11q535, cs12q535, a13q535, k13q535, a19q535, k19q535, rfl, hf536, hf537, hf538, hf539, hf540, hf541, hf542, hf543, hf544, hf545, hf546, hf547, hf548, hf549, hf550, hf551, hf552, hf553⟩ := msg_open hr534
     obtain ⟨a0q554, k0q554, a1q554, k1q554, rfl, hf555, hf556⟩ := conf_open hf545
     obtain ⟨cs0q557, rfl, hf558, hf559, hf560, hf561⟩ := hdr_open hf546
     obtain ⟨rfl, hf563, hf564, hf565⟩ := cid_open hf558
     have H := H.add (F := Rp (Shape.slice entS) [.slice a10q535 (((msgsOf hW0)[1]).entries.length) k10q535] (((msgsOf hW0)[1]).entries)) hf544
     have H := H.add (F := Rp (Shape.slice (Shape.int .i64)) [.slice a0q554 ((((msgsOf hW0)[1]).conf).voters.length) k0q554] ((((msgsOf hW0)[1]).conf).voters)) hf555
     have H := H.add (F := Rp (Shape.slice (Shape.int .i64)) [.slice a1q554 ((((msgsOf hW0)[1]).conf).learners.length) k1q554] ((((msgsOf hW0)[1]).conf).learners)) hf556
     have H := H.add (F := Rp SB [.slice a13q535 (((msgsOf hW0)[1]).data.length) k13q535] (((msgsOf hW0)[1]).data)) hf547
     have H := H.add (F := Rp (Shape.slice Shape.str) [.slice a19q535 (((msgsOf hW0)[1]).names.length) k19q535] (((msgsOf hW0)[1]).names)) hf553
     refine qHP hS 1 (qs [4, 5]) [(5, .I D448), (6, .P b522 0), (7, .I D508), (53, .agg (wrV hW0 a3q12 k3q12 a4q12 k4q12 a5q12 k5q12 a6q12 k6q12).toArray), (56, .pointer (some ⟨b531, o532 + 13, none⟩))] ?_
     refine RH.load (d := some 57) (r := [(5, .qui)]) (T := 53) (b := b531) (o' := o532 + 13) (k := 13) (v := .agg (hdrV (((msgsOf hW0)[1]).head)).toArray) (by as_aux_lemma => kernel_rfl) hS (H.fc 5 rfl) (by simp) (by simp) rfl (by as_aux_lemma => kernel_rfl) ?_
     refine RH.finB hS 1 [5, 6, 7, 53, 58] [(5, .I D448), (6, .P b522 0), (7, .I D508), (53, .agg (wrV hW0 a3q12 k3q12 a4q12 k4q12 a5q12 k5q12 a6q12 k6q12).toArray), (58, .agg #[.I 10, .I 2, .I 0, .int .u64 0, .int .u64 0, .int .u64 0, .int .u64 0, .int .u64 0, .bool false, .bool false, .slice none 0 0, .slice none 0 0, .slice none 0 0, .int .u64 (((((msgsOf hW0)[1]).head).id).version), .I (((((msgsOf hW0)[1]).head).id).index), .int .u64 (((((msgsOf hW0)[1]).head).id).epoch), .I ((((msgsOf hW0)[1]).head).kk), .I ((((msgsOf hW0)[1]).head).nn), .I ((((msgsOf hW0)[1]).head).size), .int .u32 ((((((msgsOf hW0)[1]).head).sum).toNat : Nat) : Int), .slice none 0 0, .int .u64 0, .int .u64 0, .I 0, .string (⟨#[]⟩), .I 0, .slice none 0 0])] (by as_aux_lemma => kernel_rfl) ?_
     refine (RGB.cons' ?_ (RGB.cons' ?_ RGB.nil'))
     ·
      refine RG.leaf' [(6, .seq), (7, .qui), (8, .qui), (9, .qui), (10, .seq), (11, .seq), (12, .qui)] (by as_aux_lemma => kernel_rfl) ?_
      have Hr := H
      refine RH.chn hS ?_
      -- call
      refine qK .chn (some 59) [] 23 #[.agg (wrV hW0 a3q12 k3q12 a4q12 k4q12 a5q12 k5q12 a6q12 k6q12).toArray, .agg #[.I 10, .I 2, .I 0, .int .u64 0, .int .u64 0, .int .u64 0, .int .u64 0, .int .u64 0, .bool false, .bool false, .slice none 0 0, .slice none 0 0, .slice none 0 0, .int .u64 (((((msgsOf hW0)[1]).head).id).version), .I (((((msgsOf hW0)[1]).head).id).index), .int .u64 (((((msgsOf hW0)[1]).head).id).epoch), .I ((((msgsOf hW0)[1]).head).kk), .I ((((msgsOf hW0)[1]).head).nn), .I ((((msgsOf hW0)[1]).head).size), .int .u32 ((((((msgsOf hW0)[1]).head).sum).toNat : Nat) : Int), .slice none 0 0, .int .u64 0, .int .u64 0, .I 0, .string (⟨#[]⟩), .I 0, .slice none 0 0]] (got_spec (W := hW0) (wr_mkV u64a u64a ⟨rfl, by first | assumption | (simp [maxLen]; done) | decide⟩ (H.rp 13 rfl) (H.rp 12 rfl) (H.rp 11 rfl) (H.rp 10 rfl) i64a i64a i64a) 10 2 (⟨((((msgsOf hW0)[1]).head).id), (((msgsOf hW0)[1]).head).kk, (((msgsOf hW0)[1]).head).nn, (((msgsOf hW0)[1]).head).size, (((msgsOf hW0)[1]).head).sum⟩) false (.I 0) (.int .u64 0) (.int .u64 0) (.int .u64 0) (.int .u64 0) (.int .u64 0) (.bool false) (.slice none 0 0) (.slice none 0 0) (.slice none 0 0) (.slice none 0 0) (.int .u64 0) (.int .u64 0) (.I 0) (.string (⟨#[]⟩)) (.I 0) (.slice none 0 0) (by first | assumption | omega)) ?_
      rintro _ w567 hE568 ⟨cs571, D570, D572, rfl, hr573, hlaw569⟩
      have H0s := H
      obtain ⟨a3q574, k3q574, a4q574, k4q574, a5q574, k5q574, a6q574, k6q574, rfl, hf575, hf576, hf577, hf578, hf579, hf580, hf581, hf582, hf583, hf584⟩ := wr_open hr573
      have H := H.addN hE568 (F := Rp (Shape.slice hdrS) [.slice a3q574 D570.heads.length k3q574] D570.heads) hf578
      have H := H.add (F := Rp (Shape.slice SB) [.slice a4q574 D570.chunks.length k4q574] D570.chunks) ((H0s.addN hE568 (F := Rp (Shape.slice SB) [.slice a4q574 D570.chunks.length k4q574] D570.chunks) hf579).rp 0 rfl)
      have H := H.add (F := Rp (Shape.slice (Shape.int .i64)) [.slice a5q574 D570.nodes.length k5q574] D570.nodes) ((H0s.addN hE568 (F := Rp (Shape.slice (Shape.int .i64)) [.slice a5q574 D570.nodes.length k5q574] D570.nodes) hf580).rp 0 rfl)
      have H := H.add (F := Rp (Shape.slice (Shape.int .i64)) [.slice a6q574 D570.acks.length k6q574] D570.acks) ((H0s.addN hE568 (F := Rp (Shape.slice (Shape.int .i64)) [.slice a6q574 D570.acks.length k6q574] D570.acks) hf581).rp 0 rfl)
      have hkpD570 := gotOf_keep hlaw569
      have hlkD570 := congrArg List.length hkpD570.1
      intro hS
      refine qHP hS 3 [(10, .seq), (11, .seq), (12, .qui)] [(5, .I D448), (6, .P b522 0), (7, .I D508), (60, .agg (wrV D570 a3q574 k3q574 a4q574 k4q574 a5q574 k5q574 a6q574 k6q574).toArray), (61, .I D572)] ?_
      refine RH.chn hS ?_
      refine RW.newC (κ := .chn) (d := some 8) (r := []) (o := .cells (wrZ).toArray 32 (0, 0)) (v := fun b => .P b 0) (fun b => by as_aux_lemma => kernel_rfl) (nofun) H ?_
      intro b586 w587 hnw585 H
      have hnb588 := Nat.le_trans hS.size hnw585
      intro hS
      refine RH.sto ?_
      refine RW.storeC (d := none) (r := []) (T := 32) (b := b586) (k := 0) (v := .agg (wrV D570 a3q574 k3q574 a4q574 k4q574 a5q574 k5q574 a6q574 k6q574).toArray) (c' := (wrV D570 a3q574 k3q574 a4q574 k4q574 a5q574 k5q574 a6q574 k6q574).toArray) (M' := [(b586, .cells (wrV D570 a3q574 k3q574 a4q574 k4q574 a5q574 k5q574 a6q574 k6q574).toArray 32 (0, 0)), (b522, .cells (wrV D506 a3q510 k3q510 a4q510 k4q510 a5q510 k5q510 a6q510 k6q510).toArray 32 (0, 0)), (b23, .cells (wrV hW0 a3q12 k3q12 a4q12 k4q12 a5q12 k5q12 a6q12 k6q12).toArray 32 (0, 0))]) (by as_aux_lemma => kernel_rfl) H 0 rfl (by as_aux_lemma => kernel_rfl) (by as_aux_lemma => kernel_rfl) ?_
      intro w590 hch589 H
      have hS591 := hS.sto hch589 (.inl hnb588)
      refine ⟨hS591, ?_⟩
      have hS := hS591
      refine RH.fin hS 1 [5, 6, 7, 9] [(5, .I D448), (6, .P b522 0), (7, .I D508), (9, .I D572)] (by as_aux_lemma => kernel_rfl) ?_
      refine qR 1 [.c [6, 0], .c [7]] [(5, .I D448), (6, .P b522 0), (7, .I D508), (9, .I D572)] ?_
      have H := H.dropM 2
      have H := H.dropM 0
      have H := H.pick [10, 11, 12, 13] rfl
      refine qG (sq 0 17) ?_
      refine qP 3 (sq 3 17) [(6, .P b522 0), (7, .I D508), (9, .I D572), (64, .bool (D448 == 0))] ?_
      refine tE (fun b_ => [(6, .P b522 0), (7, .I D508), (9, .I D572), (64, .bool b_)]) D448 0 (fun h592 => ?_) (fun h592 => ?_)
      ·
       refine qP 4 (sq 7 17) [(6, .P b522 0), (9, .I D572), (68, .bool (D508 == 1))] ?_
       refine tE (fun b_ => [(6, .P b522 0), (9, .I D572), (68, .bool b_)]) D508 1 (fun h593 => ?_) (fun h593 => ?_)
       ·
        refine qP 4 (sq 11 17) [(6, .P b522 0), (72, .bool (D572 == 2))] ?_
        refine tE (fun b_ => [(6, .P b522 0), (72, .bool b_)]) D572 2 (fun h594 => ?_) (fun h594 => ?_)
        ·
         refine qL .seq 73 (sq 12 17) 32 b522 0 0 (.agg (wrV D506 a3q510 k3q510 a4q510 k4q510 a5q510 k5q510 a6q510 k6q510).toArray) (H.cells 0 rfl) ?_
         -- call
         refine qK .seq (some 74) (sq 13 17) 27 #[.agg (wrV D506 a3q510 k3q510 a4q510 k4q510 a5q510 k5q510 a6q510 k6q510).toArray] (settle_spec (W := D506) (wr_mkV u64a u64a ⟨rfl, by first | assumption | (simp [maxLen]; done) | decide⟩ (H.rp 3 rfl) (H.rp 2 rfl) (H.rp 1 rfl) (H.rp 0 rfl) i64a i64a i64a) (by first | assumption | omega)) ?_
         rintro _ w595 hE596 ⟨a599, c600, D598, rfl, hr601, hlaw597⟩
         have H0s := H
         have H := H.addN hE596 (F := Rp (Shape.slice msgS) [.slice a599 D598.length c600] D598) hr601
         refine qF 4 [(0, .bool (((D598.length : Nat) : Int) == 2))] ?_
         refine qT (.bool (((D598.length : Nat) : Int) == 2)) Try.func22 ?_
         have hD9 := congrArg Prod.fst hlaw445
         simp only [] at hD9
         have hD8 := congrArg Prod.fst hlaw505
         simp only [] at hD8
         rw [hD9] at hD8
         have hL9 : D598.length = 2 := by rw [hlaw597, hD8]; kernel_rfl
         refine ⟨_, rfl, H.done, ?_⟩
         rw [hL9]; rfl
        ·
         exact absurd ((congrArg Prod.snd hlaw569).trans (by kernel_rfl) : _ = (2 : Int)) h594
       ·
        have hD9 := congrArg Prod.fst hlaw445
        simp only [] at hD9
        rw [hD9] at hlaw505
        exact absurd ((congrArg Prod.snd hlaw505).trans (by kernel_rfl) : _ = (1 : Int)) h593
      ·
       exact absurd ((congrArg Prod.snd hlaw445).trans (by kernel_rfl) : _ = (0 : Int)) h592
     ·
      refine RG.leaf' [(10, .seq), (6, .seq), (7, .qui), (8, .qui), (9, .qui), (11, .seq), (12, .qui)] (by as_aux_lemma => kernel_rfl) ?_
      have Hr := H
      refine RH.chn hS ?_
      refine RW.newC (κ := .chn) (d := some 8) (r := []) (o := .cells (wrZ).toArray 32 (0, 0)) (v := fun b => .P b 0) (fun b => by as_aux_lemma => kernel_rfl) (nofun) H ?_
      intro b603 w604 hnw602 H
      have hnb605 := Nat.le_trans hS.size hnw602
      intro hS
      refine RH.chn hS ?_
      -- call
      refine qK .chn (some 59) [] 23 #[.agg (wrV hW0 a3q12 k3q12 a4q12 k4q12 a5q12 k5q12 a6q12 k6q12).toArray, .agg #[.I 10, .I 2, .I 0, .int .u64 0, .int .u64 0, .int .u64 0, .int .u64 0, .int .u64 0, .bool false, .bool false, .slice none 0 0, .slice none 0 0, .slice none 0 0, .int .u64 (((((msgsOf hW0)[1]).head).id).version), .I (((((msgsOf hW0)[1]).head).id).index), .int .u64 (((((msgsOf hW0)[1]).head).id).epoch), .I ((((msgsOf hW0)[1]).head).kk), .I ((((msgsOf hW0)[1]).head).nn), .I ((((msgsOf hW0)[1]).head).size), .int .u32 ((((((msgsOf hW0)[1]).head).sum).toNat : Nat) : Int), .slice none 0 0, .int .u64 0, .int .u64 0, .I 0, .string (⟨#[]⟩), .I 0, .slice none 0 0]] (got_spec (W := hW0) (wr_mkV u64a u64a ⟨rfl, by first | assumption | (simp [maxLen]; done) | decide⟩ (H.rp 13 rfl) (H.rp 12 rfl) (H.rp 11 rfl) (H.rp 10 rfl) i64a i64a i64a) 10 2 (⟨((((msgsOf hW0)[1]).head).id), (((msgsOf hW0)[1]).head).kk, (((msgsOf hW0)[1]).head).nn, (((msgsOf hW0)[1]).head).size, (((msgsOf hW0)[1]).head).sum⟩) false (.I 0) (.int .u64 0) (.int .u64 0) (.int .u64 0) (.int .u64 0) (.int .u64 0) (.bool false) (.slice none 0 0) (.slice none 0 0) (.slice none 0 0) (.slice none 0 0) (.int .u64 0) (.int .u64 0) (.I 0) (.string (⟨#[]⟩)) (.I 0) (.slice none 0 0) (by first | assumption | omega)) ?_
      rintro _ w607 hE608 ⟨cs611, D610, D612, rfl, hr613, hlaw609⟩
      have H0s := H
      obtain ⟨a3q614, k3q614, a4q614, k4q614, a5q614, k5q614, a6q614, k6q614, rfl, hf615, hf616, hf617, hf618, hf619, hf620, hf621, hf622, hf623, hf624⟩ := wr_open hr613
      have H := H.addN hE608 (F := Rp (Shape.slice hdrS) [.slice a3q614 D610.heads.length k3q614] D610.heads) hf618
      have H := H.add (F := Rp (Shape.slice SB) [.slice a4q614 D610.chunks.length k4q614] D610.chunks) ((H0s.addN hE608 (F := Rp (Shape.slice SB) [.slice a4q614 D610.chunks.length k4q614] D610.chunks) hf619).rp 0 rfl)
      have H := H.add (F := Rp (Shape.slice (Shape.int .i64)) [.slice a5q614 D610.nodes.length k5q614] D610.nodes) ((H0s.addN hE608 (F := Rp (Shape.slice (Shape.int .i64)) [.slice a5q614 D610.nodes.length k5q614] D610.nodes) hf620).rp 0 rfl)
      have H := H.add (F := Rp (Shape.slice (Shape.int .i64)) [.slice a6q614 D610.acks.length k6q614] D610.acks) ((H0s.addN hE608 (F := Rp (Shape.slice (Shape.int .i64)) [.slice a6q614 D610.acks.length k6q614] D610.acks) hf621).rp 0 rfl)
      have hkpD610 := gotOf_keep hlaw609
      have hlkD610 := congrArg List.length hkpD610.1
      intro hS
      refine qHP hS 3 [(11, .seq), (12, .qui)] [(5, .I D448), (6, .P b522 0), (7, .I D508), (8, .P b603 0), (60, .agg (wrV D610 a3q614 k3q614 a4q614 k4q614 a5q614 k5q614 a6q614 k6q614).toArray), (61, .I D612)] ?_
      refine RH.sto ?_
      refine RW.storeC (d := none) (r := []) (T := 32) (b := b603) (k := 0) (v := .agg (wrV D610 a3q614 k3q614 a4q614 k4q614 a5q614 k5q614 a6q614 k6q614).toArray) (c' := (wrV D610 a3q614 k3q614 a4q614 k4q614 a5q614 k5q614 a6q614 k6q614).toArray) (M' := [(b603, .cells (wrV D610 a3q614 k3q614 a4q614 k4q614 a5q614 k5q614 a6q614 k6q614).toArray 32 (0, 0)), (b522, .cells (wrV D506 a3q510 k3q510 a4q510 k4q510 a5q510 k5q510 a6q510 k6q510).toArray 32 (0, 0)), (b23, .cells (wrV hW0 a3q12 k3q12 a4q12 k4q12 a5q12 k5q12 a6q12 k6q12).toArray 32 (0, 0))]) (by as_aux_lemma => kernel_rfl) H 0 rfl (by as_aux_lemma => kernel_rfl) (by as_aux_lemma => kernel_rfl) ?_
      intro w626 hch625 H
      have hS627 := hS.sto hch625 (.inl hnb605)
      refine ⟨hS627, ?_⟩
      have hS := hS627
      refine RH.fin hS 1 [5, 6, 7, 9] [(5, .I D448), (6, .P b522 0), (7, .I D508), (9, .I D612)] (by as_aux_lemma => kernel_rfl) ?_
      refine qR 1 [.c [6, 0], .c [7]] [(5, .I D448), (6, .P b522 0), (7, .I D508), (9, .I D612)] ?_
      have H := H.dropM 2
      have H := H.dropM 0
      have H := H.pick [10, 11, 12, 13] rfl
      refine qG (sq 0 17) ?_
      refine qP 3 (sq 3 17) [(6, .P b522 0), (7, .I D508), (9, .I D612), (64, .bool (D448 == 0))] ?_
      refine tE (fun b_ => [(6, .P b522 0), (7, .I D508), (9, .I D612), (64, .bool b_)]) D448 0 (fun h628 => ?_) (fun h628 => ?_)
      ·
       refine qP 4 (sq 7 17) [(6, .P b522 0), (9, .I D612), (68, .bool (D508 == 1))] ?_
       refine tE (fun b_ => [(6, .P b522 0), (9, .I D612), (68, .bool b_)]) D508 1 (fun h629 => ?_) (fun h629 => ?_)
       ·
        refine qP 4 (sq 11 17) [(6, .P b522 0), (72, .bool (D612 == 2))] ?_
        refine tE (fun b_ => [(6, .P b522 0), (72, .bool b_)]) D612 2 (fun h630 => ?_) (fun h630 => ?_)
        ·
         refine qL .seq 73 (sq 12 17) 32 b522 0 0 (.agg (wrV D506 a3q510 k3q510 a4q510 k4q510 a5q510 k5q510 a6q510 k6q510).toArray) (H.cells 0 rfl) ?_
         -- call
         refine qK .seq (some 74) (sq 13 17) 27 #[.agg (wrV D506 a3q510 k3q510 a4q510 k4q510 a5q510 k5q510 a6q510 k6q510).toArray] (settle_spec (W := D506) (wr_mkV u64a u64a ⟨rfl, by first | assumption | (simp [maxLen]; done) | decide⟩ (H.rp 3 rfl) (H.rp 2 rfl) (H.rp 1 rfl) (H.rp 0 rfl) i64a i64a i64a) (by first | assumption | omega)) ?_
         rintro _ w631 hE632 ⟨a635, c636, D634, rfl, hr637, hlaw633⟩
         have H0s := H
         have H := H.addN hE632 (F := Rp (Shape.slice msgS) [.slice a635 D634.length c636] D634) hr637
         refine qF 4 [(0, .bool (((D634.length : Nat) : Int) == 2))] ?_
         refine qT (.bool (((D634.length : Nat) : Int) == 2)) Try.func22 ?_
         have hD9 := congrArg Prod.fst hlaw445
         simp only [] at hD9
         have hD8 := congrArg Prod.fst hlaw505
         simp only [] at hD8
         rw [hD9] at hD8
         have hL9 : D634.length = 2 := by rw [hlaw633, hD8]; kernel_rfl
         refine ⟨_, rfl, H.done, ?_⟩
         rw [hL9]; rfl
        ·
         exact absurd ((congrArg Prod.snd hlaw609).trans (by kernel_rfl) : _ = (2 : Int)) h630
       ·
        have hD9 := congrArg Prod.fst hlaw445
        simp only [] at hD9
        rw [hD9] at hlaw505
        exact absurd ((congrArg Prod.snd hlaw505).trans (by kernel_rfl) : _ = (1 : Int)) h629
      ·
       exact absurd ((congrArg Prod.snd hlaw445).trans (by kernel_rfl) : _ = (0 : Int)) h628
    ·
     refine RG.leaf' [(10, .seq), (6, .seq), (7, .qui), (8, .qui), (9, .qui), (11, .seq), (12, .qui)] (by as_aux_lemma => kernel_rfl) ?_
     have Hr := H
     refine RH.chn hS ?_
     refine RW.newC (κ := .chn) (d := some 6) (r := []) (o := .cells (wrZ).toArray 32 (0, 0)) (v := fun b => .P b 0) (fun b => by as_aux_lemma => kernel_rfl) (nofun) H ?_
     intro b639 w640 hnw638 H
     have hnb641 := Nat.le_trans hS.size hnw638
     intro hS
     refine RH.chn hS ?_
     -- call
     refine qK .chn (some 49) [] 23 #[.agg (wrV D446 a3q450 k3q450 a4q450 k4q450 a5q450 k5q450 a6q450 k6q450).toArray, .agg #[.I 10, .I 2, .I 0, .int .u64 0, .int .u64 0, .int .u64 0, .int .u64 0, .int .u64 0, .bool true, .bool false, .slice none 0 0, .slice none 0 0, .slice none 0 0, .int .u64 (((((msgsOf hW0)[1]).head).id).version), .I (((((msgsOf hW0)[1]).head).id).index), .int .u64 (((((msgsOf hW0)[1]).head).id).epoch), .I ((((msgsOf hW0)[1]).head).kk), .I ((((msgsOf hW0)[1]).head).nn), .I ((((msgsOf hW0)[1]).head).size), .int .u32 ((((((msgsOf hW0)[1]).head).sum).toNat : Nat) : Int), .slice none 0 0, .int .u64 0, .int .u64 0, .I 0, .string (⟨#[]⟩), .I 0, .slice none 0 0]] (got_spec (W := D446) (wr_mkV u64a u64a ⟨rfl, by first | assumption | (simp [maxLen]; done) | decide⟩ (H.rp 9 rfl) (H.rp 8 rfl) (H.rp 7 rfl) (H.rp 6 rfl) i64a i64a i64a) 10 2 (⟨((((msgsOf hW0)[1]).head).id), (((msgsOf hW0)[1]).head).kk, (((msgsOf hW0)[1]).head).nn, (((msgsOf hW0)[1]).head).size, (((msgsOf hW0)[1]).head).sum⟩) true (.I 0) (.int .u64 0) (.int .u64 0) (.int .u64 0) (.int .u64 0) (.int .u64 0) (.bool false) (.slice none 0 0) (.slice none 0 0) (.slice none 0 0) (.slice none 0 0) (.int .u64 0) (.int .u64 0) (.I 0) (.string (⟨#[]⟩)) (.I 0) (.slice none 0 0) (by first | assumption | omega)) ?_
     rintro _ w643 hE644 ⟨cs647, D646, D648, rfl, hr649, hlaw645⟩
     have H0s := H
     obtain ⟨a3q650, k3q650, a4q650, k4q650, a5q650, k5q650, a6q650, k6q650, rfl, hf651, hf652, hf653, hf654, hf655, hf656, hf657, hf658, hf659, hf660⟩ := wr_open hr649
     have H := H.addN hE644 (F := Rp (Shape.slice hdrS) [.slice a3q650 D646.heads.length k3q650] D646.heads) hf654
     have H := H.add (F := Rp (Shape.slice SB) [.slice a4q650 D646.chunks.length k4q650] D646.chunks) ((H0s.addN hE644 (F := Rp (Shape.slice SB) [.slice a4q650 D646.chunks.length k4q650] D646.chunks) hf655).rp 0 rfl)
     have H := H.add (F := Rp (Shape.slice (Shape.int .i64)) [.slice a5q650 D646.nodes.length k5q650] D646.nodes) ((H0s.addN hE644 (F := Rp (Shape.slice (Shape.int .i64)) [.slice a5q650 D646.nodes.length k5q650] D646.nodes) hf656).rp 0 rfl)
     have H := H.add (F := Rp (Shape.slice (Shape.int .i64)) [.slice a6q650 D646.acks.length k6q650] D646.acks) ((H0s.addN hE644 (F := Rp (Shape.slice (Shape.int .i64)) [.slice a6q650 D646.acks.length k6q650] D646.acks) hf657).rp 0 rfl)
     have hkpD646 := gotOf_keep hlaw645
     have hlkD646 := congrArg List.length hkpD646.1
     intro hS
     refine qHP hS 3 [(11, .seq), (12, .qui)] [(1, .P b23 0), (2, .slice a7 (msgsOf hW0).length c8), (5, .I D448), (6, .P b639 0), (50, .agg (wrV D646 a3q650 k3q650 a4q650 k4q650 a5q650 k5q650 a6q650 k6q650).toArray), (51, .I D648)] ?_
     refine RH.sto ?_
     refine RW.storeC (d := none) (r := []) (T := 32) (b := b639) (k := 0) (v := .agg (wrV D646 a3q650 k3q650 a4q650 k4q650 a5q650 k5q650 a6q650 k6q650).toArray) (c' := (wrV D646 a3q650 k3q650 a4q650 k4q650 a5q650 k5q650 a6q650 k6q650).toArray) (M' := [(b639, .cells (wrV D646 a3q650 k3q650 a4q650 k4q650 a5q650 k5q650 a6q650 k6q650).toArray 32 (0, 0)), (b439, .cells (wrV D446 a3q450 k3q450 a4q450 k4q450 a5q450 k5q450 a6q450 k6q450).toArray 32 (0, 0)), (b23, .cells (wrV hW0 a3q12 k3q12 a4q12 k4q12 a5q12 k5q12 a6q12 k6q12).toArray 32 (0, 0))]) (by as_aux_lemma => kernel_rfl) H 0 rfl (by as_aux_lemma => kernel_rfl) (by as_aux_lemma => kernel_rfl) ?_
     intro w662 hch661 H
     have hS663 := hS.sto hch661 (.inl hnb641)
     refine ⟨hS663, ?_⟩
     have hS := hS663
     refine RH.fin hS 1 [1, 2, 5, 6, 7] [(1, .P b23 0), (2, .slice a7 (msgsOf hW0).length c8), (5, .I D448), (6, .P b639 0), (7, .I D648)] (by as_aux_lemma => kernel_rfl) ?_
     refine qR 1 [.c [5, 0], .c [6]] [(1, .P b23 0), (2, .slice a7 (msgsOf hW0).length c8), (5, .I D448), (6, .P b639 0), (7, .I D648)] ?_
     have H := H.dropM 1
     have H := H.pick [0, 1, 2, 3, 14, 15, 16, 17, 18] rfl
     refine WK.drawH1 [] (.node (qs [0, 1, 2, 3, 4, 5]) (.cons 6 (.leaf [(7, .qui), (8, .qui), (9, .qui), (10, .seq), (11, .seq), (12, .qui)]) (.cons 10 (.leaf [(6, .seq), (7, .qui), (8, .qui), (9, .qui), (11, .seq), (12, .qui)]) .nil))) Try_mixed (by as_aux_lemma => kernel_rfl) (by as_aux_lemma => kernel_rfl) ?_
     intro w664 hw665
     have H := H.draw
     rw [← hw665] at H
     clear hw665
     have hS := Chg.refl w664 []
     refine RG.node' (qs [0, 1, 2, 3, 4, 5]) (by as_aux_lemma => kernel_rfl) ?_
     refine RH.load (d := some 53) (r := (qs [1, 2, 3, 4, 5])) (T := 32) (b := b23) (o' := 0) (k := 0) (v := .agg (wrV hW0 a3q12 k3q12 a4q12 k4q12 a5q12 k5q12 a6q12 k6q12).toArray) (by as_aux_lemma => kernel_rfl) hS (H.cells 1 rfl) (by simp) (by simp) rfl (by as_aux_lemma => kernel_rfl) ?_
     refine qHP hS 1 (qs [2, 3, 4, 5]) [(5, .I D448), (6, .P b639 0), (7, .I D648), (53, .agg (wrV hW0 a3q12 k3q12 a4q12 k4q12 a5q12 k5q12 a6q12 k6q12).toArray), (54, .slice a7 (msgsOf hW0).length c8)] ?_
     have hx666 : 1 < (msgsOf hW0).length := by rw [hW_len]; omega
     refine RH.index (d := some 55) (r := (qs [3, 4, 5])) (T := 33) (e := 57) (ik := .i64) (ix := 1) (sh := msgS) (x := (msgsOf hW0)[1]) (by as_aux_lemma => kernel_rfl) hS (by as_aux_lemma => kernel_rfl) H 8 rfl 1 (by omega) (List.getElem?_eq_getElem hx666) ?_
     intro b667 o668 es669 hr670 H
     obtain ⟨a10q671, k10q671, cs11q671, cs12q671, a13q671, k13q671, a19q671, k19q671, rfl, hf672, hf673, hf674, hf675, hf676, hf677, hf678, hf679, hf680, hf681, hf682, hf683, hf684, hf685, hf686, hf687, hf688, hf689⟩ := msg_open hr670
     obtain ⟨a0q690, k0q690, a1q690, k1q690, rfl, hf691, hf692⟩ := conf_open hf681
     obtain ⟨cs0q693, rfl, hf694, hf695, hf696, hf697⟩ := hdr_open hf682
     obtain ⟨rfl, hf699, hf700, hf701⟩ := cid_open hf694
     have H := H.add (F := Rp (Shape.slice entS) [.slice a10q671 (((msgsOf hW0)[1]).entries.length) k10q671] (((msgsOf hW0)[1]).entries)) hf680
     have H := H.add (F := Rp (Shape.slice (Shape.int .i64)) [.slice a0q690 ((((msgsOf hW0)[1]).conf).voters.length) k0q690] ((((msgsOf hW0)[1]).conf).voters)) hf691
     have H := H.add (F := Rp (Shape.slice (Shape.int .i64)) [.slice a1q690 ((((msgsOf hW0)[1]).conf).learners.length) k1q690] ((((msgsOf hW0)[1]).conf).learners)) hf692
     have H := H.add (F := Rp SB [.slice a13q671 (((msgsOf hW0)[1]).data.length) k13q671] (((msgsOf hW0)[1]).data)) hf683
     have H := H.add (F := Rp (Shape.slice Shape.str) [.slice a19q671 (((msgsOf hW0)[1]).names.length) k19q671] (((msgsOf hW0)[1]).names)) hf689
     refine qHP hS 1 (qs [4, 5]) [(5, .I D448), (6, .P b639 0), (7, .I D648), (53, .agg (wrV hW0 a3q12 k3q12 a4q12 k4q12 a5q12 k5q12 a6q12 k6q12).toArray), (56, .pointer (some ⟨b667, o668 + 13, none⟩))] ?_
     refine RH.load (d := some 57) (r := [(5, .qui)]) (T := 53) (b := b667) (o' := o668 + 13) (k := 13) (v := .agg (hdrV (((msgsOf hW0)[1]).head)).toArray) (by as_aux_lemma => kernel_rfl) hS (H.fc 5 rfl) (by simp) (by simp) rfl (by as_aux_lemma => kernel_rfl) ?_
     refine RH.finB hS 1 [5, 6, 7, 53, 58] [(5, .I D448), (6, .P b639 0), (7, .I D648), (53, .agg (wrV hW0 a3q12 k3q12 a4q12 k4q12 a5q12 k5q12 a6q12 k6q12).toArray), (58, .agg #[.I 10, .I 2, .I 0, .int .u64 0, .int .u64 0, .int .u64 0, .int .u64 0, .int .u64 0, .bool false, .bool false, .slice none 0 0, .slice none 0 0, .slice none 0 0, .int .u64 (((((msgsOf hW0)[1]).head).id).version), .I (((((msgsOf hW0)[1]).head).id).index), .int .u64 (((((msgsOf hW0)[1]).head).id).epoch), .I ((((msgsOf hW0)[1]).head).kk), .I ((((msgsOf hW0)[1]).head).nn), .I ((((msgsOf hW0)[1]).head).size), .int .u32 ((((((msgsOf hW0)[1]).head).sum).toNat : Nat) : Int), .slice none 0 0, .int .u64 0, .int .u64 0, .I 0, .string (⟨#[]⟩), .I 0, .slice none 0 0])] (by as_aux_lemma => kernel_rfl) ?_
     refine (RGB.cons' ?_ (RGB.cons' ?_ RGB.nil'))
     ·
      refine RG.leaf' [(6, .seq), (7, .qui), (8, .qui), (9, .qui), (10, .seq), (11, .seq), (12, .qui)] (by as_aux_lemma => kernel_rfl) ?_
      have Hr := H
      refine RH.chn hS ?_
      -- call
      refine qK .chn (some 59) [] 23 #[.agg (wrV hW0 a3q12 k3q12 a4q12 k4q12 a5q12 k5q12 a6q12 k6q12).toArray, .agg #[.I 10, .I 2, .I 0, .int .u64 0, .int .u64 0, .int .u64 0, .int .u64 0, .int .u64 0, .bool false, .bool false, .slice none 0 0, .slice none 0 0, .slice none 0 0, .int .u64 (((((msgsOf hW0)[1]).head).id).version), .I (((((msgsOf hW0)[1]).head).id).index), .int .u64 (((((msgsOf hW0)[1]).head).id).epoch), .I ((((msgsOf hW0)[1]).head).kk), .I ((((msgsOf hW0)[1]).head).nn), .I ((((msgsOf hW0)[1]).head).size), .int .u32 ((((((msgsOf hW0)[1]).head).sum).toNat : Nat) : Int), .slice none 0 0, .int .u64 0, .int .u64 0, .I 0, .string (⟨#[]⟩), .I 0, .slice none 0 0]] (got_spec (W := hW0) (wr_mkV u64a u64a ⟨rfl, by first | assumption | (simp [maxLen]; done) | decide⟩ (H.rp 13 rfl) (H.rp 12 rfl) (H.rp 11 rfl) (H.rp 10 rfl) i64a i64a i64a) 10 2 (⟨((((msgsOf hW0)[1]).head).id), (((msgsOf hW0)[1]).head).kk, (((msgsOf hW0)[1]).head).nn, (((msgsOf hW0)[1]).head).size, (((msgsOf hW0)[1]).head).sum⟩) false (.I 0) (.int .u64 0) (.int .u64 0) (.int .u64 0) (.int .u64 0) (.int .u64 0) (.bool false) (.slice none 0 0) (.slice none 0 0) (.slice none 0 0) (.slice none 0 0) (.int .u64 0) (.int .u64 0) (.I 0) (.string (⟨#[]⟩)) (.I 0) (.slice none 0 0) (by first | assumption | omega)) ?_
      rintro _ w703 hE704 ⟨cs707, D706, D708, rfl, hr709, hlaw705⟩
      have H0s := H
      obtain ⟨a3q710, k3q710, a4q710, k4q710, a5q710, k5q710, a6q710, k6q710, rfl, hf711, hf712, hf713, hf714, hf715, hf716, hf717, hf718, hf719, hf720⟩ := wr_open hr709
      have H := H.addN hE704 (F := Rp (Shape.slice hdrS) [.slice a3q710 D706.heads.length k3q710] D706.heads) hf714
      have H := H.add (F := Rp (Shape.slice SB) [.slice a4q710 D706.chunks.length k4q710] D706.chunks) ((H0s.addN hE704 (F := Rp (Shape.slice SB) [.slice a4q710 D706.chunks.length k4q710] D706.chunks) hf715).rp 0 rfl)
      have H := H.add (F := Rp (Shape.slice (Shape.int .i64)) [.slice a5q710 D706.nodes.length k5q710] D706.nodes) ((H0s.addN hE704 (F := Rp (Shape.slice (Shape.int .i64)) [.slice a5q710 D706.nodes.length k5q710] D706.nodes) hf716).rp 0 rfl)
      have H := H.add (F := Rp (Shape.slice (Shape.int .i64)) [.slice a6q710 D706.acks.length k6q710] D706.acks) ((H0s.addN hE704 (F := Rp (Shape.slice (Shape.int .i64)) [.slice a6q710 D706.acks.length k6q710] D706.acks) hf717).rp 0 rfl)
      have hkpD706 := gotOf_keep hlaw705
      have hlkD706 := congrArg List.length hkpD706.1
      intro hS
      refine qHP hS 3 [(10, .seq), (11, .seq), (12, .qui)] [(5, .I D448), (6, .P b639 0), (7, .I D648), (60, .agg (wrV D706 a3q710 k3q710 a4q710 k4q710 a5q710 k5q710 a6q710 k6q710).toArray), (61, .I D708)] ?_
      refine RH.chn hS ?_
      refine RW.newC (κ := .chn) (d := some 8) (r := []) (o := .cells (wrZ).toArray 32 (0, 0)) (v := fun b => .P b 0) (fun b => by as_aux_lemma => kernel_rfl) (nofun) H ?_
      intro b722 w723 hnw721 H
      have hnb724 := Nat.le_trans hS.size hnw721
      intro hS
      refine RH.sto ?_
      refine RW.storeC (d := none) (r := []) (T := 32) (b := b722) (k := 0) (v := .agg (wrV D706 a3q710 k3q710 a4q710 k4q710 a5q710 k5q710 a6q710 k6q710).toArray) (c' := (wrV D706 a3q710 k3q710 a4q710 k4q710 a5q710 k5q710 a6q710 k6q710).toArray) (M' := [(b722, .cells (wrV D706 a3q710 k3q710 a4q710 k4q710 a5q710 k5q710 a6q710 k6q710).toArray 32 (0, 0)), (b639, .cells (wrV D646 a3q650 k3q650 a4q650 k4q650 a5q650 k5q650 a6q650 k6q650).toArray 32 (0, 0)), (b23, .cells (wrV hW0 a3q12 k3q12 a4q12 k4q12 a5q12 k5q12 a6q12 k6q12).toArray 32 (0, 0))]) (by as_aux_lemma => kernel_rfl) H 0 rfl (by as_aux_lemma => kernel_rfl) (by as_aux_lemma => kernel_rfl) ?_
      intro w726 hch725 H
      have hS727 := hS.sto hch725 (.inl hnb724)
      refine ⟨hS727, ?_⟩
      have hS := hS727
      refine RH.fin hS 1 [5, 6, 7, 9] [(5, .I D448), (6, .P b639 0), (7, .I D648), (9, .I D708)] (by as_aux_lemma => kernel_rfl) ?_
      refine qR 1 [.c [6, 0], .c [7]] [(5, .I D448), (6, .P b639 0), (7, .I D648), (9, .I D708)] ?_
      have H := H.dropM 2
      have H := H.dropM 0
      have H := H.pick [10, 11, 12, 13] rfl
      refine qG (sq 0 17) ?_
      refine qP 3 (sq 3 17) [(6, .P b639 0), (7, .I D648), (9, .I D708), (64, .bool (D448 == 0))] ?_
      refine tE (fun b_ => [(6, .P b639 0), (7, .I D648), (9, .I D708), (64, .bool b_)]) D448 0 (fun h728 => ?_) (fun h728 => ?_)
      ·
       refine qP 4 (sq 7 17) [(6, .P b639 0), (9, .I D708), (68, .bool (D648 == 1))] ?_
       refine tE (fun b_ => [(6, .P b639 0), (9, .I D708), (68, .bool b_)]) D648 1 (fun h729 => ?_) (fun h729 => ?_)
       ·
        refine qP 4 (sq 11 17) [(6, .P b639 0), (72, .bool (D708 == 2))] ?_
        refine tE (fun b_ => [(6, .P b639 0), (72, .bool b_)]) D708 2 (fun h730 => ?_) (fun h730 => ?_)
        ·
         refine qL .seq 73 (sq 12 17) 32 b639 0 0 (.agg (wrV D646 a3q650 k3q650 a4q650 k4q650 a5q650 k5q650 a6q650 k6q650).toArray) (H.cells 0 rfl) ?_
         -- call
         refine qK .seq (some 74) (sq 13 17) 27 #[.agg (wrV D646 a3q650 k3q650 a4q650 k4q650 a5q650 k5q650 a6q650 k6q650).toArray] (settle_spec (W := D646) (wr_mkV u64a u64a ⟨rfl, by first | assumption | (simp [maxLen]; done) | decide⟩ (H.rp 3 rfl) (H.rp 2 rfl) (H.rp 1 rfl) (H.rp 0 rfl) i64a i64a i64a) (by first | assumption | omega)) ?_
         rintro _ w731 hE732 ⟨a735, c736, D734, rfl, hr737, hlaw733⟩
         have H0s := H
         have H := H.addN hE732 (F := Rp (Shape.slice msgS) [.slice a735 D734.length c736] D734) hr737
         refine qF 4 [(0, .bool (((D734.length : Nat) : Int) == 2))] ?_
         refine qT (.bool (((D734.length : Nat) : Int) == 2)) Try.func22 ?_
         have hD9 := congrArg Prod.fst hlaw445
         simp only [] at hD9
         have hD8 := congrArg Prod.fst hlaw645
         simp only [] at hD8
         rw [hD9] at hD8
         have hL9 : D734.length = 2 := by rw [hlaw733, hD8]; kernel_rfl
         refine ⟨_, rfl, H.done, ?_⟩
         rw [hL9]; rfl
        ·
         exact absurd ((congrArg Prod.snd hlaw705).trans (by kernel_rfl) : _ = (2 : Int)) h730
       ·
        have hD9 := congrArg Prod.fst hlaw445
        simp only [] at hD9
        rw [hD9] at hlaw645
        exact absurd ((congrArg Prod.snd hlaw645).trans (by kernel_rfl) : _ = (1 : Int)) h729
      ·
       exact absurd ((congrArg Prod.snd hlaw445).trans (by kernel_rfl) : _ = (0 : Int)) h728
     ·
      refine RG.leaf' [(10, .seq), (6, .seq), (7, .qui), (8, .qui), (9, .qui), (11, .seq), (12, .qui)] (by as_aux_lemma => kernel_rfl) ?_
      have Hr := H
      refine RH.chn hS ?_
      refine RW.newC (κ := .chn) (d := some 8) (r := []) (o := .cells (wrZ).toArray 32 (0, 0)) (v := fun b => .P b 0) (fun b => by as_aux_lemma => kernel_rfl) (nofun) H ?_
      intro b739 w740 hnw738 H
      have hnb741 := Nat.le_trans hS.size hnw738
      intro hS
      refine RH.chn hS ?_
      -- call
      refine qK .chn (some 59) [] 23 #[.agg (wrV hW0 a3q12 k3q12 a4q12 k4q12 a5q12 k5q12 a6q12 k6q12).toArray, .agg #[.I 10, .I 2, .I 0, .int .u64 0, .int .u64 0, .int .u64 0, .int .u64 0, .int .u64 0, .bool false, .bool false, .slice none 0 0, .slice none 0 0, .slice none 0 0, .int .u64 (((((msgsOf hW0)[1]).head).id).version), .I (((((msgsOf hW0)[1]).head).id).index), .int .u64 (((((msgsOf hW0)[1]).head).id).epoch), .I ((((msgsOf hW0)[1]).head).kk), .I ((((msgsOf hW0)[1]).head).nn), .I ((((msgsOf hW0)[1]).head).size), .int .u32 ((((((msgsOf hW0)[1]).head).sum).toNat : Nat) : Int), .slice none 0 0, .int .u64 0, .int .u64 0, .I 0, .string (⟨#[]⟩), .I 0, .slice none 0 0]] (got_spec (W := hW0) (wr_mkV u64a u64a ⟨rfl, by first | assumption | (simp [maxLen]; done) | decide⟩ (H.rp 13 rfl) (H.rp 12 rfl) (H.rp 11 rfl) (H.rp 10 rfl) i64a i64a i64a) 10 2 (⟨((((msgsOf hW0)[1]).head).id), (((msgsOf hW0)[1]).head).kk, (((msgsOf hW0)[1]).head).nn, (((msgsOf hW0)[1]).head).size, (((msgsOf hW0)[1]).head).sum⟩) false (.I 0) (.int .u64 0) (.int .u64 0) (.int .u64 0) (.int .u64 0) (.int .u64 0) (.bool false) (.slice none 0 0) (.slice none 0 0) (.slice none 0 0) (.slice none 0 0) (.int .u64 0) (.int .u64 0) (.I 0) (.string (⟨#[]⟩)) (.I 0) (.slice none 0 0) (by first | assumption | omega)) ?_
      rintro _ w743 hE744 ⟨cs747, D746, D748, rfl, hr749, hlaw745⟩
      have H0s := H
      obtain ⟨a3q750, k3q750, a4q750, k4q750, a5q750, k5q750, a6q750, k6q750, rfl, hf751, hf752, hf753, hf754, hf755, hf756, hf757, hf758, hf759, hf760⟩ := wr_open hr749
      have H := H.addN hE744 (F := Rp (Shape.slice hdrS) [.slice a3q750 D746.heads.length k3q750] D746.heads) hf754
      have H := H.add (F := Rp (Shape.slice SB) [.slice a4q750 D746.chunks.length k4q750] D746.chunks) ((H0s.addN hE744 (F := Rp (Shape.slice SB) [.slice a4q750 D746.chunks.length k4q750] D746.chunks) hf755).rp 0 rfl)
      have H := H.add (F := Rp (Shape.slice (Shape.int .i64)) [.slice a5q750 D746.nodes.length k5q750] D746.nodes) ((H0s.addN hE744 (F := Rp (Shape.slice (Shape.int .i64)) [.slice a5q750 D746.nodes.length k5q750] D746.nodes) hf756).rp 0 rfl)
      have H := H.add (F := Rp (Shape.slice (Shape.int .i64)) [.slice a6q750 D746.acks.length k6q750] D746.acks) ((H0s.addN hE744 (F := Rp (Shape.slice (Shape.int .i64)) [.slice a6q750 D746.acks.length k6q750] D746.acks) hf757).rp 0 rfl)
      have hkpD746 := gotOf_keep hlaw745
      have hlkD746 := congrArg List.length hkpD746.1
      intro hS
      refine qHP hS 3 [(11, .seq), (12, .qui)] [(5, .I D448), (6, .P b639 0), (7, .I D648), (8, .P b739 0), (60, .agg (wrV D746 a3q750 k3q750 a4q750 k4q750 a5q750 k5q750 a6q750 k6q750).toArray), (61, .I D748)] ?_
      refine RH.sto ?_
      refine RW.storeC (d := none) (r := []) (T := 32) (b := b739) (k := 0) (v := .agg (wrV D746 a3q750 k3q750 a4q750 k4q750 a5q750 k5q750 a6q750 k6q750).toArray) (c' := (wrV D746 a3q750 k3q750 a4q750 k4q750 a5q750 k5q750 a6q750 k6q750).toArray) (M' := [(b739, .cells (wrV D746 a3q750 k3q750 a4q750 k4q750 a5q750 k5q750 a6q750 k6q750).toArray 32 (0, 0)), (b639, .cells (wrV D646 a3q650 k3q650 a4q650 k4q650 a5q650 k5q650 a6q650 k6q650).toArray 32 (0, 0)), (b23, .cells (wrV hW0 a3q12 k3q12 a4q12 k4q12 a5q12 k5q12 a6q12 k6q12).toArray 32 (0, 0))]) (by as_aux_lemma => kernel_rfl) H 0 rfl (by as_aux_lemma => kernel_rfl) (by as_aux_lemma => kernel_rfl) ?_
      intro w762 hch761 H
      have hS763 := hS.sto hch761 (.inl hnb741)
      refine ⟨hS763, ?_⟩
      have hS := hS763
      refine RH.fin hS 1 [5, 6, 7, 9] [(5, .I D448), (6, .P b639 0), (7, .I D648), (9, .I D748)] (by as_aux_lemma => kernel_rfl) ?_
      refine qR 1 [.c [6, 0], .c [7]] [(5, .I D448), (6, .P b639 0), (7, .I D648), (9, .I D748)] ?_
      have H := H.dropM 2
      have H := H.dropM 0
      have H := H.pick [10, 11, 12, 13] rfl
      refine qG (sq 0 17) ?_
      refine qP 3 (sq 3 17) [(6, .P b639 0), (7, .I D648), (9, .I D748), (64, .bool (D448 == 0))] ?_
      refine tE (fun b_ => [(6, .P b639 0), (7, .I D648), (9, .I D748), (64, .bool b_)]) D448 0 (fun h764 => ?_) (fun h764 => ?_)
      ·
       refine qP 4 (sq 7 17) [(6, .P b639 0), (9, .I D748), (68, .bool (D648 == 1))] ?_
       refine tE (fun b_ => [(6, .P b639 0), (9, .I D748), (68, .bool b_)]) D648 1 (fun h765 => ?_) (fun h765 => ?_)
       ·
        refine qP 4 (sq 11 17) [(6, .P b639 0), (72, .bool (D748 == 2))] ?_
        refine tE (fun b_ => [(6, .P b639 0), (72, .bool b_)]) D748 2 (fun h766 => ?_) (fun h766 => ?_)
        ·
         refine qL .seq 73 (sq 12 17) 32 b639 0 0 (.agg (wrV D646 a3q650 k3q650 a4q650 k4q650 a5q650 k5q650 a6q650 k6q650).toArray) (H.cells 0 rfl) ?_
         -- call
         refine qK .seq (some 74) (sq 13 17) 27 #[.agg (wrV D646 a3q650 k3q650 a4q650 k4q650 a5q650 k5q650 a6q650 k6q650).toArray] (settle_spec (W := D646) (wr_mkV u64a u64a ⟨rfl, by first | assumption | (simp [maxLen]; done) | decide⟩ (H.rp 3 rfl) (H.rp 2 rfl) (H.rp 1 rfl) (H.rp 0 rfl) i64a i64a i64a) (by first | assumption | omega)) ?_
         rintro _ w767 hE768 ⟨a771, c772, D770, rfl, hr773, hlaw769⟩
         have H0s := H
         have H := H.addN hE768 (F := Rp (Shape.slice msgS) [.slice a771 D770.length c772] D770) hr773
         refine qF 4 [(0, .bool (((D770.length : Nat) : Int) == 2))] ?_
         refine qT (.bool (((D770.length : Nat) : Int) == 2)) Try.func22 ?_
         have hD9 := congrArg Prod.fst hlaw445
         simp only [] at hD9
         have hD8 := congrArg Prod.fst hlaw645
         simp only [] at hD8
         rw [hD9] at hD8
         have hL9 : D770.length = 2 := by rw [hlaw769, hD8]; kernel_rfl
         refine ⟨_, rfl, H.done, ?_⟩
         rw [hL9]; rfl
        ·
         exact absurd ((congrArg Prod.snd hlaw745).trans (by kernel_rfl) : _ = (2 : Int)) h766
       ·
        have hD9 := congrArg Prod.fst hlaw445
        simp only [] at hD9
        rw [hD9] at hlaw645
        exact absurd ((congrArg Prod.snd hlaw645).trans (by kernel_rfl) : _ = (1 : Int)) h765
      ·
       exact absurd ((congrArg Prod.snd hlaw445).trans (by kernel_rfl) : _ = (0 : Int)) h764


end Go.Proofs.Ytppcdmbkgficiaa
