import Derived.Test.YtdnibpclkhenmaaGreatDoorSJ1
import Derived.Test.YtdnibpclkhenmaaGreatDoorSBxA
import Derived.Test.YtdnibpclkhenmaaGreatDoorSBxB
namespace Go.Proofs.YtdnibpclkhenmaaGreatDoor
open Go.BX
theorem word_spec {S : Nat → Prop} {w : World} (n : BitVec 32) :
 Calls Tryz.prog 116 #[.int .u32 ((n.toNat : Nat) : Int)] w (Ret fun v w' => Ext w w' ∧ ∃ (a : Option Addr) (c : Nat), v = .slice a (wordB n).length c ∧ SB.rep (Nw S w) w' [.slice a (wordB n).length c] (wordB n)) := by
 refine qS (fn := Tryz.f116) (n := 15) (σ := [(0, .int .u32 ((n.toNat : Nat) : Int))]) Tryz.func116 ?_
 have H := Hp.startF (w := w) (S := S) (G := []) .nil
 refine qR 3 [.c [1, 0], .c [2]] [(0, .int .u32 ((n.toNat : Nat) : Int))] ?_
 refine qG (sq 0 13) ?_
 refine qP 1 (sq 1 13) [(0, .int .u32 ((n.toNat : Nat) : Int)), (3, .int .u32 ((n.toNat : Nat) : Int))] ?_
 refine RW.pv (κ := .seq) (d := some 4) (r := (sq 2 13)) (v := .int .u8 (IntKind.u8.wrap (((n.toNat : Nat) : Int)))) (v' := .int .u8 (((n.setWidth 8).toNat : Nat) : Int)) (by as_aux_lemma => kernel_rfl) (bv_cv32_8 _) ?_
 refine qP 1 (sq 3 13) [(0, .int .u32 ((n.toNat : Nat) : Int)), (4, .int .u8 (((n.setWidth 8).toNat : Nat) : Int)), (5, .int .u32 ((n.toNat : Nat) : Int))] ?_
 refine RW.pv (κ := .seq) (d := some 6) (r := (sq 4 13)) (v := .int .u32 (((n.toNat : Nat) : Int).fdiv (2 ^ 8))) (v' := .int .u32 ((((n >>> 8).toNat : Nat) : Int))) (by as_aux_lemma => kernel_rfl) (bv_shr32 _ 8) ?_
 refine RW.pv (κ := .seq) (d := some 7) (r := (sq 5 13)) (v := .int .u8 (IntKind.u8.wrap ((((n >>> 8).toNat : Nat) : Int)))) (v' := .int .u8 ((((n >>> 8).setWidth 8).toNat : Nat) : Int)) (by as_aux_lemma => kernel_rfl) (bv_cv32_8 _) ?_
 refine qP 1 (sq 6 13) [(0, .int .u32 ((n.toNat : Nat) : Int)), (4, .int .u8 (((n.setWidth 8).toNat : Nat) : Int)), (7, .int .u8 ((((n >>> 8).setWidth 8).toNat : Nat) : Int)), (8, .int .u32 ((n.toNat : Nat) : Int))] ?_
 refine RW.pv (κ := .seq) (d := some 9) (r := (sq 7 13)) (v := .int .u32 (((n.toNat : Nat) : Int).fdiv (2 ^ 16))) (v' := .int .u32 ((((n >>> 16).toNat : Nat) : Int))) (by as_aux_lemma => kernel_rfl) (bv_shr32 _ 16) ?_
 refine RW.pv (κ := .seq) (d := some 10) (r := (sq 8 13)) (v := .int .u8 (IntKind.u8.wrap ((((n >>> 16).toNat : Nat) : Int)))) (v' := .int .u8 ((((n >>> 16).setWidth 8).toNat : Nat) : Int)) (by as_aux_lemma => kernel_rfl) (bv_cv32_8 _) ?_
 refine qP 1 (sq 9 13) [(4, .int .u8 (((n.setWidth 8).toNat : Nat) : Int)), (7, .int .u8 ((((n >>> 8).setWidth 8).toNat : Nat) : Int)), (10, .int .u8 ((((n >>> 16).setWidth 8).toNat : Nat) : Int)), (11, .int .u32 ((n.toNat : Nat) : Int))] ?_
 refine RW.pv (κ := .seq) (d := some 12) (r := (sq 10 13)) (v := .int .u32 (((n.toNat : Nat) : Int).fdiv (2 ^ 24))) (v' := .int .u32 ((((n >>> 24).toNat : Nat) : Int))) (by as_aux_lemma => kernel_rfl) (bv_shr32 _ 24) ?_
 refine RW.pv (κ := .seq) (d := some 13) (r := (sq 11 13)) (v := .int .u8 (IntKind.u8.wrap ((((n >>> 24).toNat : Nat) : Int)))) (v' := .int .u8 ((((n >>> 24).setWidth 8).toNat : Nat) : Int)) (by as_aux_lemma => kernel_rfl) (bv_cv32_8 _) ?_
 refine RW.new (κ := .seq) (d := some 14) (r := (sq 12 13)) (o := .cells #[.int .u8 (((n.setWidth 8).toNat : Nat) : Int), .int .u8 ((((n >>> 8).setWidth 8).toNat : Nat) : Int), .int .u8 ((((n >>> 16).setWidth 8).toNat : Nat) : Int), .int .u8 ((((n >>> 24).setWidth 8).toNat : Nat) : Int)] 5 (0, 0)) (v := fun b => .slice (some ⟨b, 0, none⟩) 4 4) (fun b => by as_aux_lemma => kernel_rfl) (nofun) H ?_
 intro b1 w2 H
 refine qF 1 [(2, .slice (some ⟨b1, 0, none⟩) 4 4)] ?_
 refine qT (.slice (some ⟨b1, 0, none⟩) 4 4) Tryz.func116 ?_
 have H := H.freeze 0 rfl Sb ([n.setWidth 8, (n >>> 8).setWidth 8, (n >>> 16).setWidth 8, (n >>> 24).setWidth 8] : List (BitVec 8)) 4 (by simp [maxLen]) (by first | exact Nat.le_refl _ | simp) (EsP.cons (c := [.int .u8 (((n.setWidth 8).toNat : Nat) : Int)]) Shape.bv_mk (EsP.cons (c := [.int .u8 ((((n >>> 8).setWidth 8).toNat : Nat) : Int)]) Shape.bv_mk (EsP.cons (c := [.int .u8 ((((n >>> 16).setWidth 8).toNat : Nat) : Int)]) Shape.bv_mk (EsP.cons (c := [.int .u8 ((((n >>> 24).setWidth 8).toNat : Nat) : Int)]) Shape.bv_mk EsP.nil))))
 have H : Hp w S [] [] [] [Rp SB [.slice (some ⟨b1, 0, none⟩) 4 4] ([n.setWidth 8, (n >>> 8).setWidth 8, (n >>> 16).setWidth 8, (n >>> 24).setWidth 8] : List (BitVec 8))] _ := H
 exact ⟨_, rfl, H.done, _, _, rfl, H.out (H.rp 0 rfl)⟩
theorem sealed_spec {S : Nat → Prop} {w : World} {O : List Nat} {xs bs : List (BitVec 8)} {a b : Option Addr} {c d : Nat} (hl1 : xs.length ≤ 100000000) (hl2 : bs.length ≤ 100000000) (H0 : Hp w S O [] [⟨Sb, 5, .slice a xs.length c, xs⟩] [Rp SB [.slice b bs.length d] bs] w) :
 Calls Tryz.prog 115 #[.slice a xs.length c, .slice b bs.length d] w (Ret fun v w' => ∃ (a' : Option Addr) (c' : Nat), v = .slice a' (sealF xs bs).length c' ∧ Hp w S O [] [⟨Sb, 5, .slice a' (sealF xs bs).length c', sealF xs bs⟩] [] w') := by
 refine qS (fn := Tryz.f115) (n := 12) (σ := [(0, .slice a xs.length c), (1, .slice b bs.length d)]) Tryz.func115 ?_
 have H := H0
 refine qR 3 [.c [1, 0], .c [2]] [(0, .slice a xs.length c), (1, .slice b bs.length d)] ?_
 refine qG (sq 0 8) ?_
 refine qP 2 (sq 2 8) [(1, .slice b bs.length d), (5, .slice a xs.length c), (6, .slice b bs.length d)] ?_
 refine RW.appendW (d := some 7) (r := (sq 3 8)) (T := 23) (ty := 23) (e := 5) (m := 1) (by_ := 1) (v := .slice a xs.length c) (a2 := b) (l2 := bs.length) (c2 := d) (zs := (xs ++ bs)) (by as_aux_lemma => kernel_rfl) (by as_aux_lemma => kernel_rfl) rfl H 0 rfl 0 rfl (rfl) (by rw [List.length_append]; omega) ?_
 intro a1 c2 w4 H hc3
 have H : Hp w S O [] [⟨Sb, 5, .slice a1 (xs ++ bs).length c2, (xs ++ bs)⟩] [Rp SB [.slice b bs.length d] bs] _ := H
 refine qP 1 (sq 4 8) [(7, .slice a1 (xs ++ bs).length c2), (8, .slice b bs.length d)] ?_
 refine qK .seq (some 9) (sq 5 8) 88 #[.slice b bs.length d] (crc_spec (H.rp 0 rfl)) ?_
 rintro _ w5 hE6 rfl
 have H := H.ext hE6
 refine qK .seq (some 10) (sq 6 8) 116 #[.int .u32 (((crcF bs).toNat : Nat) : Int)] (word_spec (S := Av S w O (idsOf [] [⟨Sb, 5, .slice a1 (xs ++ bs).length c2, (xs ++ bs)⟩])) (crcF bs)) ?_
 rintro _ w7 hE10 ⟨a8, c9, rfl, hr11⟩
 have H := H.addN hE10 (F := Rp SB [.slice a8 ((wordB (crcF bs)).length) c9] (wordB (crcF bs))) hr11
 refine RW.appendW (d := some 11) (r := (sq 7 8)) (T := 23) (ty := 23) (e := 5) (m := 1) (by_ := 1) (v := .slice a1 (xs ++ bs).length c2) (a2 := a8) (l2 := ((wordB (crcF bs)).length)) (c2 := c9) (zs := (sealF xs bs)) (by as_aux_lemma => kernel_rfl) (by as_aux_lemma => kernel_rfl) rfl H 0 rfl 0 rfl (rfl) (by unfold sealF; simp only [List.length_append, wordB_len]; omega) ?_
 intro a12 c13 w15 H hc14
 have H : Hp w S O [] [⟨Sb, 5, .slice a12 (sealF xs bs).length c13, (sealF xs bs)⟩] [Rp SB [.slice a8 ((wordB (crcF bs)).length) c9] (wordB (crcF bs)), Rp SB [.slice b bs.length d] bs] _ := H
 refine qF 1 [(4, .slice a12 (sealF xs bs).length c13)] ?_
 refine qT (.slice a12 (sealF xs bs).length c13) Tryz.func115 ?_
 have H := H.drop (M' := []) (W' := [_]) (List.nil_sublist _) (by repeat (first | exact List.Sublist.refl _ | exact List.nil_sublist _ | apply List.Sublist.cons_cons | apply List.Sublist.cons))
 exact ⟨_, rfl, _, _, rfl, H.pick [] rfl⟩
theorem frame_spec {S : Nat → Prop} {w : World} {xs : List (BitVec 8)} {a : Option Addr} {c : Nat} (h : SB.rep S w [.slice a xs.length c] xs) (hl : xs.length ≤ 4194304) :
 Calls Tryz.prog 57 #[.slice a xs.length c] w (Ret fun v w' => Ext w w' ∧ ∃ (a' : Option Addr) (c' : Nat), v = .tuple #[.slice a' (frameF xs).length c', .I 0] ∧ Hp w S [] [] [⟨Sb, 5, .slice a' (frameF xs).length c', frameF xs⟩] [] w') := by
 refine qS (fn := Tryz.f57) (n := 18) (σ := [(0, .slice a xs.length c)]) Tryz.func57 ?_
 have H := Hp.startF (w := w) (S := S) (G := [Rp SB [.slice a xs.length c] xs]) (.rp h .nil)
 refine qR 5 [.c [1, 0, 1], .c [2]] [(0, .slice a xs.length c), (6, .bool (decide ((((xs.length : Nat) : Int) : Int) > 4194304)))] ?_
 refine qD ((((xs.length : Nat) : Int) : Int) > 4194304) (fun h1 => ?_) (fun h1 => ?_)
 ·
  omega
 ·
  refine qR 2 [.c [2, 0], .c [3]] [(0, .slice a xs.length c)] ?_
  refine WK.joinV (α := Option Addr × Nat) (fun x_ w_ => match x_ with | (a9, c9) => Hp w S [] [] [⟨Sb, 5, .slice a9 (frameF xs).length c9, frameF xs⟩] [Rp SB [.slice a xs.length c] xs] w_ ∧ True) (fun x_ => match x_ with | (a9, c9) => [(2, .slice a9 (frameF xs).length c9), (3, .I 0)]) [Cq Tryz.prog 57 [3]] (fun hJ2 => ?_) ?_
  ·
   refine WK.drawO1 [0, 1, 4, 5, 9] [(16, .slice a xs.length c), (12, .I ((xs.length : Nat) : Int)), (11, .slice a xs.length c), (8, .I ((xs.length : Nat) : Int)), (7, .slice a xs.length c), (0, .slice a xs.length c)] (.node [] (.cons 2 (.node [] (.cons 3 (.leaf [(6, .seq), (7, .seq), (8, .seq), (10, .seq), (11, .seq), (12, .seq)]) (.cons 6 (.node [] (.cons 3 (.leaf [(7, .seq), (8, .seq), (10, .seq), (11, .seq), (12, .seq)]) (.cons 7 (.leaf [(3, .seq), (8, .seq), (10, .seq), (11, .seq), (12, .seq)]) .nil))) .nil))) (.cons 6 (.node [] (.cons 2 (.node [] (.cons 3 (.leaf [(7, .seq), (8, .seq), (10, .seq), (11, .seq), (12, .seq)]) (.cons 7 (.leaf [(3, .seq), (8, .seq), (10, .seq), (11, .seq), (12, .seq)]) .nil))) (.cons 7 (.leaf [(2, .seq), (3, .seq), (8, .seq), (10, .seq), (11, .seq), (12, .seq)]) .nil))) .nil))) Tryz_mixed (by as_aux_lemma => kernel_rfl) (by as_aux_lemma => kernel_rfl) (by as_aux_lemma => kernel_rfl) ?_
   have H := H.draw
   generalize ({ w with drawn := w.drawn + 1 } : World) = w4 at H ⊢
   refine RO.node' [] (by as_aux_lemma => kernel_rfl) ?_
   refine RO.fin 0 [8, 12, 16] [(8, .I ((xs.length : Nat) : Int)), (12, .I ((xs.length : Nat) : Int)), (16, .slice a xs.length c)] (by as_aux_lemma => kernel_rfl) ?_
   refine (ROB.cons' ?_ (ROB.cons' ?_ ROB.nil'))
   ·
    refine RO.node' [(2, .seq)] (by as_aux_lemma => kernel_rfl) ?_
    refine qI .seq 9 [] (((xs.length : Nat) : Int) + 12) ?_
    refine RO.fin 0 [9, 12, 16] [(9, .I (((xs.length : Nat) : Int) + 12)), (12, .I ((xs.length : Nat) : Int)), (16, .slice a xs.length c)] (by as_aux_lemma => kernel_rfl) ?_
    refine (ROB.cons' ?_ (ROB.cons' ?_ ROB.nil'))
    ·
     refine RO.leaf' [(3, .seq), (6, .seq), (7, .seq), (8, .seq), (10, .seq), (11, .seq), (12, .seq)] (by as_aux_lemma => kernel_rfl) ?_
     refine RW.makeW Sb (κ := .seq) (d := some 10) (r := [(6, .seq), (7, .seq), (8, .seq), (10, .seq), (11, .seq), (12, .seq)]) (T := 23) (e := 5) (by_ := 1) (v0 := .int .u8 0) (0#8 : BitVec 8) (kl := .i64) (kc := .i64) (lv := 0) (cv := ((xs.length : Nat) : Int) + 12) (by as_aux_lemma => kernel_rfl) (nofun) (by as_aux_lemma => kernel_rfl) rfl H 0 (xs.length + 12) (by omega) (by omega) (by omega) (by omega) (by omega) (fun _ _ => rfl) ?_
     intro b5 w6 H
     have H : Hp w S [] [] [⟨Sb, 5, .slice (some ⟨b5, 0, none⟩) 0 (xs.length + 12), []⟩] [Rp SB [.slice a xs.length c] xs] _ := H
     refine RW.pv (κ := .seq) (d := some 13) (r := [(7, .seq), (8, .seq), (10, .seq), (11, .seq), (12, .seq)]) (v := .int .u32 (IntKind.u32.wrap (((xs.length : Nat) : Int)))) (v' := .int .u32 (((BitVec.ofNat 32 xs.length).toNat : Nat) : Int)) (by as_aux_lemma => kernel_rfl) ((wrap_bv32 _).trans (by rw [bv_nat])) ?_
     refine qK .seq (some 14) [(8, .seq), (10, .seq), (11, .seq), (12, .seq)] 116 #[.int .u32 (((BitVec.ofNat 32 xs.length).toNat : Nat) : Int)] (word_spec (S := Av S w [] (idsOf [] [⟨Sb, 5, .slice (some ⟨b5, 0, none⟩) 0 (xs.length + 12), []⟩])) (BitVec.ofNat 32 xs.length)) ?_
     rintro _ w7 hE10 ⟨a8, c9, rfl, hr11⟩
     have H := H.addN hE10 (F := Rp SB [.slice a8 ((wordB (BitVec.ofNat 32 xs.length)).length) c9] (wordB (BitVec.ofNat 32 xs.length))) hr11
     refine RW.callS (d := some 15) (r := [(10, .seq), (11, .seq), (12, .seq)]) (g := 115) (args := #[.slice (some ⟨b5, 0, none⟩) 0 (xs.length + 12), .slice a8 ((wordB (BitVec.ofNat 32 xs.length)).length) c9]) (by as_aux_lemma => kernel_rfl) (sealed_spec (xs := []) (bs := (wordB (BitVec.ofNat 32 xs.length))) (by first | omega | (simp only [List.length_nil, wordB_len, sealF, List.length_append]; omega)) (by first | omega | (simp only [List.length_nil, wordB_len, sealF, List.length_append]; omega)) ((H.lend (M1 := []) (W1 := [⟨Sb, 5, .slice (some ⟨b5, 0, none⟩) 0 (xs.length + 12), []⟩])).pick [0] rfl)) ?_
     rintro _ w12 ⟨a13, c14, rfl, H'⟩
     have H := H.back (M1 := []) (W1 := [⟨Sb, 5, .slice (some ⟨b5, 0, none⟩) 0 (xs.length + 12), []⟩]) H'
     have H : Hp w S [] [] [⟨Sb, 5, .slice a13 ((sealF [] (wordB (BitVec.ofNat 32 xs.length))).length) c14, (sealF [] (wordB (BitVec.ofNat 32 xs.length)))⟩] [Rp SB [.slice a8 ((wordB (BitVec.ofNat 32 xs.length)).length) c9] (wordB (BitVec.ofNat 32 xs.length)), Rp SB [.slice a xs.length c] xs] _ := H
     refine RW.callS (d := some 17) (r := [(11, .seq), (12, .seq)]) (g := 115) (args := #[.slice a13 ((sealF [] (wordB (BitVec.ofNat 32 xs.length))).length) c14, .slice a xs.length c]) (by as_aux_lemma => kernel_rfl) (sealed_spec (xs := (sealF [] (wordB (BitVec.ofNat 32 xs.length)))) (bs := xs) (by first | omega | (simp only [List.length_nil, wordB_len, sealF, List.length_append]; omega)) (by first | omega | (simp only [List.length_nil, wordB_len, sealF, List.length_append]; omega)) ((H.lend (M1 := []) (W1 := [⟨Sb, 5, .slice a13 ((sealF [] (wordB (BitVec.ofNat 32 xs.length))).length) c14, (sealF [] (wordB (BitVec.ofNat 32 xs.length)))⟩])).pick [1] rfl)) ?_
     rintro _ w15 ⟨a16, c17, rfl, H'⟩
     have H := H.back (M1 := []) (W1 := [⟨Sb, 5, .slice a13 ((sealF [] (wordB (BitVec.ofNat 32 xs.length))).length) c14, (sealF [] (wordB (BitVec.ofNat 32 xs.length)))⟩]) H'
     have H : Hp w S [] [] [⟨Sb, 5, .slice a16 ((sealF (sealF [] (wordB (BitVec.ofNat 32 xs.length))) xs).length) c17, (sealF (sealF [] (wordB (BitVec.ofNat 32 xs.length))) xs)⟩] [Rp SB [.slice a8 ((wordB (BitVec.ofNat 32 xs.length)).length) c9] (wordB (BitVec.ofNat 32 xs.length)), Rp SB [.slice a xs.length c] xs] _ := H
     refine qF 2 [(2, .slice a16 ((sealF (sealF [] (wordB (BitVec.ofNat 32 xs.length))) xs).length) c17), (3, .I 0)] ?_
     have H : Hp w S [] [] [⟨Sb, 5, .slice a16 (frameF xs).length c17, frameF xs⟩] [Rp SB [.slice a8 ((wordB (BitVec.ofNat 32 xs.length)).length) c9] (wordB (BitVec.ofNat 32 xs.length)), Rp SB [.slice a xs.length c] xs] _ := H
     have H := H.pick [1] rfl
     exact hJ2 (a16, c17) _ ⟨H, trivial⟩
    ·
     refine RO.node' [(6, .seq)] (by as_aux_lemma => kernel_rfl) ?_
     refine RW.pv (κ := .seq) (d := some 13) (r := []) (v := .int .u32 (IntKind.u32.wrap (((xs.length : Nat) : Int)))) (v' := .int .u32 (((BitVec.ofNat 32 xs.length).toNat : Nat) : Int)) (by as_aux_lemma => kernel_rfl) ((wrap_bv32 _).trans (by rw [bv_nat])) ?_
     refine RO.fin 0 [9, 13, 16] [(9, .I (((xs.length : Nat) : Int) + 12)), (13, .int .u32 (((BitVec.ofNat 32 xs.length).toNat : Nat) : Int)), (16, .slice a xs.length c)] (by as_aux_lemma => kernel_rfl) ?_
     refine (ROB.cons' ?_ (ROB.cons' ?_ ROB.nil'))
     ·
      refine RO.leaf' [(3, .seq), (7, .seq), (8, .seq), (10, .seq), (11, .seq), (12, .seq)] (by as_aux_lemma => kernel_rfl) ?_
      refine RW.makeW Sb (κ := .seq) (d := some 10) (r := [(7, .seq), (8, .seq), (10, .seq), (11, .seq), (12, .seq)]) (T := 23) (e := 5) (by_ := 1) (v0 := .int .u8 0) (0#8 : BitVec 8) (kl := .i64) (kc := .i64) (lv := 0) (cv := ((xs.length : Nat) : Int) + 12) (by as_aux_lemma => kernel_rfl) (nofun) (by as_aux_lemma => kernel_rfl) rfl H 0 (xs.length + 12) (by omega) (by omega) (by omega) (by omega) (by omega) (fun _ _ => rfl) ?_
      intro b18 w19 H
      have H : Hp w S [] [] [⟨Sb, 5, .slice (some ⟨b18, 0, none⟩) 0 (xs.length + 12), []⟩] [Rp SB [.slice a xs.length c] xs] _ := H
      refine qK .seq (some 14) [(8, .seq), (10, .seq), (11, .seq), (12, .seq)] 116 #[.int .u32 (((BitVec.ofNat 32 xs.length).toNat : Nat) : Int)] (word_spec (S := Av S w [] (idsOf [] [⟨Sb, 5, .slice (some ⟨b18, 0, none⟩) 0 (xs.length + 12), []⟩])) (BitVec.ofNat 32 xs.length)) ?_
      rintro _ w20 hE23 ⟨a21, c22, rfl, hr24⟩
      have H := H.addN hE23 (F := Rp SB [.slice a21 ((wordB (BitVec.ofNat 32 xs.length)).length) c22] (wordB (BitVec.ofNat 32 xs.length))) hr24
      refine RW.callS (d := some 15) (r := [(10, .seq), (11, .seq), (12, .seq)]) (g := 115) (args := #[.slice (some ⟨b18, 0, none⟩) 0 (xs.length + 12), .slice a21 ((wordB (BitVec.ofNat 32 xs.length)).length) c22]) (by as_aux_lemma => kernel_rfl) (sealed_spec (xs := []) (bs := (wordB (BitVec.ofNat 32 xs.length))) (by first | omega | (simp only [List.length_nil, wordB_len, sealF, List.length_append]; omega)) (by first | omega | (simp only [List.length_nil, wordB_len, sealF, List.length_append]; omega)) ((H.lend (M1 := []) (W1 := [⟨Sb, 5, .slice (some ⟨b18, 0, none⟩) 0 (xs.length + 12), []⟩])).pick [0] rfl)) ?_
      rintro _ w25 ⟨a26, c27, rfl, H'⟩
      have H := H.back (M1 := []) (W1 := [⟨Sb, 5, .slice (some ⟨b18, 0, none⟩) 0 (xs.length + 12), []⟩]) H'
      have H : Hp w S [] [] [⟨Sb, 5, .slice a26 ((sealF [] (wordB (BitVec.ofNat 32 xs.length))).length) c27, (sealF [] (wordB (BitVec.ofNat 32 xs.length)))⟩] [Rp SB [.slice a21 ((wordB (BitVec.ofNat 32 xs.length)).length) c22] (wordB (BitVec.ofNat 32 xs.length)), Rp SB [.slice a xs.length c] xs] _ := H
      refine RW.callS (d := some 17) (r := [(11, .seq), (12, .seq)]) (g := 115) (args := #[.slice a26 ((sealF [] (wordB (BitVec.ofNat 32 xs.length))).length) c27, .slice a xs.length c]) (by as_aux_lemma => kernel_rfl) (sealed_spec (xs := (sealF [] (wordB (BitVec.ofNat 32 xs.length)))) (bs := xs) (by first | omega | (simp only [List.length_nil, wordB_len, sealF, List.length_append]; omega)) (by first | omega | (simp only [List.length_nil, wordB_len, sealF, List.length_append]; omega)) ((H.lend (M1 := []) (W1 := [⟨Sb, 5, .slice a26 ((sealF [] (wordB (BitVec.ofNat 32 xs.length))).length) c27, (sealF [] (wordB (BitVec.ofNat 32 xs.length)))⟩])).pick [1] rfl)) ?_
      rintro _ w28 ⟨a29, c30, rfl, H'⟩
      have H := H.back (M1 := []) (W1 := [⟨Sb, 5, .slice a26 ((sealF [] (wordB (BitVec.ofNat 32 xs.length))).length) c27, (sealF [] (wordB (BitVec.ofNat 32 xs.length)))⟩]) H'
      have H : Hp w S [] [] [⟨Sb, 5, .slice a29 ((sealF (sealF [] (wordB (BitVec.ofNat 32 xs.length))) xs).length) c30, (sealF (sealF [] (wordB (BitVec.ofNat 32 xs.length))) xs)⟩] [Rp SB [.slice a21 ((wordB (BitVec.ofNat 32 xs.length)).length) c22] (wordB (BitVec.ofNat 32 xs.length)), Rp SB [.slice a xs.length c] xs] _ := H
      refine qF 2 [(2, .slice a29 ((sealF (sealF [] (wordB (BitVec.ofNat 32 xs.length))) xs).length) c30), (3, .I 0)] ?_
      have H : Hp w S [] [] [⟨Sb, 5, .slice a29 (frameF xs).length c30, frameF xs⟩] [Rp SB [.slice a21 ((wordB (BitVec.ofNat 32 xs.length)).length) c22] (wordB (BitVec.ofNat 32 xs.length)), Rp SB [.slice a xs.length c] xs] _ := H
      have H := H.pick [1] rfl
      exact hJ2 (a29, c30) _ ⟨H, trivial⟩
     ·
      refine RO.leaf' [(7, .seq), (3, .seq), (8, .seq), (10, .seq), (11, .seq), (12, .seq)] (by as_aux_lemma => kernel_rfl) ?_
      refine qK .seq (some 14) [(3, .seq), (8, .seq), (10, .seq), (11, .seq), (12, .seq)] 116 #[.int .u32 (((BitVec.ofNat 32 xs.length).toNat : Nat) : Int)] (word_spec (S := Av S w [] (idsOf [] [])) (BitVec.ofNat 32 xs.length)) ?_
      rintro _ w31 hE34 ⟨a32, c33, rfl, hr35⟩
      have H := H.addN hE34 (F := Rp SB [.slice a32 ((wordB (BitVec.ofNat 32 xs.length)).length) c33] (wordB (BitVec.ofNat 32 xs.length))) hr35
      refine RW.makeW Sb (κ := .seq) (d := some 10) (r := [(8, .seq), (10, .seq), (11, .seq), (12, .seq)]) (T := 23) (e := 5) (by_ := 1) (v0 := .int .u8 0) (0#8 : BitVec 8) (kl := .i64) (kc := .i64) (lv := 0) (cv := ((xs.length : Nat) : Int) + 12) (by as_aux_lemma => kernel_rfl) (nofun) (by as_aux_lemma => kernel_rfl) rfl H 0 (xs.length + 12) (by omega) (by omega) (by omega) (by omega) (by omega) (fun _ _ => rfl) ?_
      intro b36 w37 H
      have H : Hp w S [] [] [⟨Sb, 5, .slice (some ⟨b36, 0, none⟩) 0 (xs.length + 12), []⟩] [Rp SB [.slice a32 ((wordB (BitVec.ofNat 32 xs.length)).length) c33] (wordB (BitVec.ofNat 32 xs.length)), Rp SB [.slice a xs.length c] xs] _ := H
      refine RW.callS (d := some 15) (r := [(10, .seq), (11, .seq), (12, .seq)]) (g := 115) (args := #[.slice (some ⟨b36, 0, none⟩) 0 (xs.length + 12), .slice a32 ((wordB (BitVec.ofNat 32 xs.length)).length) c33]) (by as_aux_lemma => kernel_rfl) (sealed_spec (xs := []) (bs := (wordB (BitVec.ofNat 32 xs.length))) (by first | omega | (simp only [List.length_nil, wordB_len, sealF, List.length_append]; omega)) (by first | omega | (simp only [List.length_nil, wordB_len, sealF, List.length_append]; omega)) ((H.lend (M1 := []) (W1 := [⟨Sb, 5, .slice (some ⟨b36, 0, none⟩) 0 (xs.length + 12), []⟩])).pick [0] rfl)) ?_
      rintro _ w38 ⟨a39, c40, rfl, H'⟩
      have H := H.back (M1 := []) (W1 := [⟨Sb, 5, .slice (some ⟨b36, 0, none⟩) 0 (xs.length + 12), []⟩]) H'
      have H : Hp w S [] [] [⟨Sb, 5, .slice a39 ((sealF [] (wordB (BitVec.ofNat 32 xs.length))).length) c40, (sealF [] (wordB (BitVec.ofNat 32 xs.length)))⟩] [Rp SB [.slice a32 ((wordB (BitVec.ofNat 32 xs.length)).length) c33] (wordB (BitVec.ofNat 32 xs.length)), Rp SB [.slice a xs.length c] xs] _ := H
      refine RW.callS (d := some 17) (r := [(11, .seq), (12, .seq)]) (g := 115) (args := #[.slice a39 ((sealF [] (wordB (BitVec.ofNat 32 xs.length))).length) c40, .slice a xs.length c]) (by as_aux_lemma => kernel_rfl) (sealed_spec (xs := (sealF [] (wordB (BitVec.ofNat 32 xs.length)))) (bs := xs) (by first | omega | (simp only [List.length_nil, wordB_len, sealF, List.length_append]; omega)) (by first | omega | (simp only [List.length_nil, wordB_len, sealF, List.length_append]; omega)) ((H.lend (M1 := []) (W1 := [⟨Sb, 5, .slice a39 ((sealF [] (wordB (BitVec.ofNat 32 xs.length))).length) c40, (sealF [] (wordB (BitVec.ofNat 32 xs.length)))⟩])).pick [1] rfl)) ?_
      rintro _ w41 ⟨a42, c43, rfl, H'⟩
      have H := H.back (M1 := []) (W1 := [⟨Sb, 5, .slice a39 ((sealF [] (wordB (BitVec.ofNat 32 xs.length))).length) c40, (sealF [] (wordB (BitVec.ofNat 32 xs.length)))⟩]) H'
      have H : Hp w S [] [] [⟨Sb, 5, .slice a42 ((sealF (sealF [] (wordB (BitVec.ofNat 32 xs.length))) xs).length) c43, (sealF (sealF [] (wordB (BitVec.ofNat 32 xs.length))) xs)⟩] [Rp SB [.slice a32 ((wordB (BitVec.ofNat 32 xs.length)).length) c33] (wordB (BitVec.ofNat 32 xs.length)), Rp SB [.slice a xs.length c] xs] _ := H
      refine qF 2 [(2, .slice a42 ((sealF (sealF [] (wordB (BitVec.ofNat 32 xs.length))) xs).length) c43), (3, .I 0)] ?_
      have H : Hp w S [] [] [⟨Sb, 5, .slice a42 (frameF xs).length c43, frameF xs⟩] [Rp SB [.slice a32 ((wordB (BitVec.ofNat 32 xs.length)).length) c33] (wordB (BitVec.ofNat 32 xs.length)), Rp SB [.slice a xs.length c] xs] _ := H
      have H := H.pick [1] rfl
      exact hJ2 (a42, c43) _ ⟨H, trivial⟩
   ·
    refine RO.node' [(6, .seq)] (by as_aux_lemma => kernel_rfl) ?_
    refine RW.pv (κ := .seq) (d := some 13) (r := []) (v := .int .u32 (IntKind.u32.wrap (((xs.length : Nat) : Int)))) (v' := .int .u32 (((BitVec.ofNat 32 xs.length).toNat : Nat) : Int)) (by as_aux_lemma => kernel_rfl) ((wrap_bv32 _).trans (by rw [bv_nat])) ?_
    refine RO.fin 0 [8, 13, 16] [(8, .I ((xs.length : Nat) : Int)), (13, .int .u32 (((BitVec.ofNat 32 xs.length).toNat : Nat) : Int)), (16, .slice a xs.length c)] (by as_aux_lemma => kernel_rfl) ?_
    refine (ROB.cons' ?_ (ROB.cons' ?_ ROB.nil'))
    ·
     refine RO.node' [(2, .seq)] (by as_aux_lemma => kernel_rfl) ?_
     refine qI .seq 9 [] (((xs.length : Nat) : Int) + 12) ?_
     refine RO.fin 0 [9, 13, 16] [(9, .I (((xs.length : Nat) : Int) + 12)), (13, .int .u32 (((BitVec.ofNat 32 xs.length).toNat : Nat) : Int)), (16, .slice a xs.length c)] (by as_aux_lemma => kernel_rfl) ?_
     refine (ROB.cons' ?_ (ROB.cons' ?_ ROB.nil'))
     ·
      refine RO.leaf' [(3, .seq), (7, .seq), (8, .seq), (10, .seq), (11, .seq), (12, .seq)] (by as_aux_lemma => kernel_rfl) ?_
      refine RW.makeW Sb (κ := .seq) (d := some 10) (r := [(7, .seq), (8, .seq), (10, .seq), (11, .seq), (12, .seq)]) (T := 23) (e := 5) (by_ := 1) (v0 := .int .u8 0) (0#8 : BitVec 8) (kl := .i64) (kc := .i64) (lv := 0) (cv := ((xs.length : Nat) : Int) + 12) (by as_aux_lemma => kernel_rfl) (nofun) (by as_aux_lemma => kernel_rfl) rfl H 0 (xs.length + 12) (by omega) (by omega) (by omega) (by omega) (by omega) (fun _ _ => rfl) ?_
      intro b44 w45 H
      have H : Hp w S [] [] [⟨Sb, 5, .slice (some ⟨b44, 0, none⟩) 0 (xs.length + 12), []⟩] [Rp SB [.slice a xs.length c] xs] _ := H
      refine qK .seq (some 14) [(8, .seq), (10, .seq), (11, .seq), (12, .seq)] 116 #[.int .u32 (((BitVec.ofNat 32 xs.length).toNat : Nat) : Int)] (word_spec (S := Av S w [] (idsOf [] [⟨Sb, 5, .slice (some ⟨b44, 0, none⟩) 0 (xs.length + 12), []⟩])) (BitVec.ofNat 32 xs.length)) ?_
      rintro _ w46 hE49 ⟨a47, c48, rfl, hr50⟩
      have H := H.addN hE49 (F := Rp SB [.slice a47 ((wordB (BitVec.ofNat 32 xs.length)).length) c48] (wordB (BitVec.ofNat 32 xs.length))) hr50
      refine RW.callS (d := some 15) (r := [(10, .seq), (11, .seq), (12, .seq)]) (g := 115) (args := #[.slice (some ⟨b44, 0, none⟩) 0 (xs.length + 12), .slice a47 ((wordB (BitVec.ofNat 32 xs.length)).length) c48]) (by as_aux_lemma => kernel_rfl) (sealed_spec (xs := []) (bs := (wordB (BitVec.ofNat 32 xs.length))) (by first | omega | (simp only [List.length_nil, wordB_len, sealF, List.length_append]; omega)) (by first | omega | (simp only [List.length_nil, wordB_len, sealF, List.length_append]; omega)) ((H.lend (M1 := []) (W1 := [⟨Sb, 5, .slice (some ⟨b44, 0, none⟩) 0 (xs.length + 12), []⟩])).pick [0] rfl)) ?_
      rintro _ w51 ⟨a52, c53, rfl, H'⟩
      have H := H.back (M1 := []) (W1 := [⟨Sb, 5, .slice (some ⟨b44, 0, none⟩) 0 (xs.length + 12), []⟩]) H'
      have H : Hp w S [] [] [⟨Sb, 5, .slice a52 ((sealF [] (wordB (BitVec.ofNat 32 xs.length))).length) c53, (sealF [] (wordB (BitVec.ofNat 32 xs.length)))⟩] [Rp SB [.slice a47 ((wordB (BitVec.ofNat 32 xs.length)).length) c48] (wordB (BitVec.ofNat 32 xs.length)), Rp SB [.slice a xs.length c] xs] _ := H
      refine RW.callS (d := some 17) (r := [(11, .seq), (12, .seq)]) (g := 115) (args := #[.slice a52 ((sealF [] (wordB (BitVec.ofNat 32 xs.length))).length) c53, .slice a xs.length c]) (by as_aux_lemma => kernel_rfl) (sealed_spec (xs := (sealF [] (wordB (BitVec.ofNat 32 xs.length)))) (bs := xs) (by first | omega | (simp only [List.length_nil, wordB_len, sealF, List.length_append]; omega)) (by first | omega | (simp only [List.length_nil, wordB_len, sealF, List.length_append]; omega)) ((H.lend (M1 := []) (W1 := [⟨Sb, 5, .slice a52 ((sealF [] (wordB (BitVec.ofNat 32 xs.length))).length) c53, (sealF [] (wordB (BitVec.ofNat 32 xs.length)))⟩])).pick [1] rfl)) ?_
      rintro _ w54 ⟨a55, c56, rfl, H'⟩
      have H := H.back (M1 := []) (W1 := [⟨Sb, 5, .slice a52 ((sealF [] (wordB (BitVec.ofNat 32 xs.length))).length) c53, (sealF [] (wordB (BitVec.ofNat 32 xs.length)))⟩]) H'
      have H : Hp w S [] [] [⟨Sb, 5, .slice a55 ((sealF (sealF [] (wordB (BitVec.ofNat 32 xs.length))) xs).length) c56, (sealF (sealF [] (wordB (BitVec.ofNat 32 xs.length))) xs)⟩] [Rp SB [.slice a47 ((wordB (BitVec.ofNat 32 xs.length)).length) c48] (wordB (BitVec.ofNat 32 xs.length)), Rp SB [.slice a xs.length c] xs] _ := H
      refine qF 2 [(2, .slice a55 ((sealF (sealF [] (wordB (BitVec.ofNat 32 xs.length))) xs).length) c56), (3, .I 0)] ?_
      have H : Hp w S [] [] [⟨Sb, 5, .slice a55 (frameF xs).length c56, frameF xs⟩] [Rp SB [.slice a47 ((wordB (BitVec.ofNat 32 xs.length)).length) c48] (wordB (BitVec.ofNat 32 xs.length)), Rp SB [.slice a xs.length c] xs] _ := H
      have H := H.pick [1] rfl
      exact hJ2 (a55, c56) _ ⟨H, trivial⟩
     ·
      refine RO.leaf' [(7, .seq), (3, .seq), (8, .seq), (10, .seq), (11, .seq), (12, .seq)] (by as_aux_lemma => kernel_rfl) ?_
      refine qK .seq (some 14) [(3, .seq), (8, .seq), (10, .seq), (11, .seq), (12, .seq)] 116 #[.int .u32 (((BitVec.ofNat 32 xs.length).toNat : Nat) : Int)] (word_spec (S := Av S w [] (idsOf [] [])) (BitVec.ofNat 32 xs.length)) ?_
      rintro _ w57 hE60 ⟨a58, c59, rfl, hr61⟩
      have H := H.addN hE60 (F := Rp SB [.slice a58 ((wordB (BitVec.ofNat 32 xs.length)).length) c59] (wordB (BitVec.ofNat 32 xs.length))) hr61
      refine RW.makeW Sb (κ := .seq) (d := some 10) (r := [(8, .seq), (10, .seq), (11, .seq), (12, .seq)]) (T := 23) (e := 5) (by_ := 1) (v0 := .int .u8 0) (0#8 : BitVec 8) (kl := .i64) (kc := .i64) (lv := 0) (cv := ((xs.length : Nat) : Int) + 12) (by as_aux_lemma => kernel_rfl) (nofun) (by as_aux_lemma => kernel_rfl) rfl H 0 (xs.length + 12) (by omega) (by omega) (by omega) (by omega) (by omega) (fun _ _ => rfl) ?_
      intro b62 w63 H
      have H : Hp w S [] [] [⟨Sb, 5, .slice (some ⟨b62, 0, none⟩) 0 (xs.length + 12), []⟩] [Rp SB [.slice a58 ((wordB (BitVec.ofNat 32 xs.length)).length) c59] (wordB (BitVec.ofNat 32 xs.length)), Rp SB [.slice a xs.length c] xs] _ := H
      refine RW.callS (d := some 15) (r := [(10, .seq), (11, .seq), (12, .seq)]) (g := 115) (args := #[.slice (some ⟨b62, 0, none⟩) 0 (xs.length + 12), .slice a58 ((wordB (BitVec.ofNat 32 xs.length)).length) c59]) (by as_aux_lemma => kernel_rfl) (sealed_spec (xs := []) (bs := (wordB (BitVec.ofNat 32 xs.length))) (by first | omega | (simp only [List.length_nil, wordB_len, sealF, List.length_append]; omega)) (by first | omega | (simp only [List.length_nil, wordB_len, sealF, List.length_append]; omega)) ((H.lend (M1 := []) (W1 := [⟨Sb, 5, .slice (some ⟨b62, 0, none⟩) 0 (xs.length + 12), []⟩])).pick [0] rfl)) ?_
      rintro _ w64 ⟨a65, c66, rfl, H'⟩
      have H := H.back (M1 := []) (W1 := [⟨Sb, 5, .slice (some ⟨b62, 0, none⟩) 0 (xs.length + 12), []⟩]) H'
      have H : Hp w S [] [] [⟨Sb, 5, .slice a65 ((sealF [] (wordB (BitVec.ofNat 32 xs.length))).length) c66, (sealF [] (wordB (BitVec.ofNat 32 xs.length)))⟩] [Rp SB [.slice a58 ((wordB (BitVec.ofNat 32 xs.length)).length) c59] (wordB (BitVec.ofNat 32 xs.length)), Rp SB [.slice a xs.length c] xs] _ := H
      refine RW.callS (d := some 17) (r := [(11, .seq), (12, .seq)]) (g := 115) (args := #[.slice a65 ((sealF [] (wordB (BitVec.ofNat 32 xs.length))).length) c66, .slice a xs.length c]) (by as_aux_lemma => kernel_rfl) (sealed_spec (xs := (sealF [] (wordB (BitVec.ofNat 32 xs.length)))) (bs := xs) (by first | omega | (simp only [List.length_nil, wordB_len, sealF, List.length_append]; omega)) (by first | omega | (simp only [List.length_nil, wordB_len, sealF, List.length_append]; omega)) ((H.lend (M1 := []) (W1 := [⟨Sb, 5, .slice a65 ((sealF [] (wordB (BitVec.ofNat 32 xs.length))).length) c66, (sealF [] (wordB (BitVec.ofNat 32 xs.length)))⟩])).pick [1] rfl)) ?_
      rintro _ w67 ⟨a68, c69, rfl, H'⟩
      have H := H.back (M1 := []) (W1 := [⟨Sb, 5, .slice a65 ((sealF [] (wordB (BitVec.ofNat 32 xs.length))).length) c66, (sealF [] (wordB (BitVec.ofNat 32 xs.length)))⟩]) H'
      have H : Hp w S [] [] [⟨Sb, 5, .slice a68 ((sealF (sealF [] (wordB (BitVec.ofNat 32 xs.length))) xs).length) c69, (sealF (sealF [] (wordB (BitVec.ofNat 32 xs.length))) xs)⟩] [Rp SB [.slice a58 ((wordB (BitVec.ofNat 32 xs.length)).length) c59] (wordB (BitVec.ofNat 32 xs.length)), Rp SB [.slice a xs.length c] xs] _ := H
      refine qF 2 [(2, .slice a68 ((sealF (sealF [] (wordB (BitVec.ofNat 32 xs.length))) xs).length) c69), (3, .I 0)] ?_
      have H : Hp w S [] [] [⟨Sb, 5, .slice a68 (frameF xs).length c69, frameF xs⟩] [Rp SB [.slice a58 ((wordB (BitVec.ofNat 32 xs.length)).length) c59] (wordB (BitVec.ofNat 32 xs.length)), Rp SB [.slice a xs.length c] xs] _ := H
      have H := H.pick [1] rfl
      exact hJ2 (a68, c69) _ ⟨H, trivial⟩
    ·
     refine RO.leaf' [(7, .seq), (2, .seq), (3, .seq), (8, .seq), (10, .seq), (11, .seq), (12, .seq)] (by as_aux_lemma => kernel_rfl) ?_
     refine qK .seq (some 14) [(2, .seq), (3, .seq), (8, .seq), (10, .seq), (11, .seq), (12, .seq)] 116 #[.int .u32 (((BitVec.ofNat 32 xs.length).toNat : Nat) : Int)] (word_spec (S := Av S w [] (idsOf [] [])) (BitVec.ofNat 32 xs.length)) ?_
     rintro _ w70 hE73 ⟨a71, c72, rfl, hr74⟩
     have H := H.addN hE73 (F := Rp SB [.slice a71 ((wordB (BitVec.ofNat 32 xs.length)).length) c72] (wordB (BitVec.ofNat 32 xs.length))) hr74
     refine qI .seq 9 [(3, .seq), (8, .seq), (10, .seq), (11, .seq), (12, .seq)] (((xs.length : Nat) : Int) + 12) ?_
     refine RW.makeW Sb (κ := .seq) (d := some 10) (r := [(8, .seq), (10, .seq), (11, .seq), (12, .seq)]) (T := 23) (e := 5) (by_ := 1) (v0 := .int .u8 0) (0#8 : BitVec 8) (kl := .i64) (kc := .i64) (lv := 0) (cv := ((xs.length : Nat) : Int) + 12) (by as_aux_lemma => kernel_rfl) (nofun) (by as_aux_lemma => kernel_rfl) rfl H 0 (xs.length + 12) (by omega) (by omega) (by omega) (by omega) (by omega) (fun _ _ => rfl) ?_
     intro b75 w76 H
     have H : Hp w S [] [] [⟨Sb, 5, .slice (some ⟨b75, 0, none⟩) 0 (xs.length + 12), []⟩] [Rp SB [.slice a71 ((wordB (BitVec.ofNat 32 xs.length)).length) c72] (wordB (BitVec.ofNat 32 xs.length)), Rp SB [.slice a xs.length c] xs] _ := H
     refine RW.callS (d := some 15) (r := [(10, .seq), (11, .seq), (12, .seq)]) (g := 115) (args := #[.slice (some ⟨b75, 0, none⟩) 0 (xs.length + 12), .slice a71 ((wordB (BitVec.ofNat 32 xs.length)).length) c72]) (by as_aux_lemma => kernel_rfl) (sealed_spec (xs := []) (bs := (wordB (BitVec.ofNat 32 xs.length))) (by first | omega | (simp only [List.length_nil, wordB_len, sealF, List.length_append]; omega)) (by first | omega | (simp only [List.length_nil, wordB_len, sealF, List.length_append]; omega)) ((H.lend (M1 := []) (W1 := [⟨Sb, 5, .slice (some ⟨b75, 0, none⟩) 0 (xs.length + 12), []⟩])).pick [0] rfl)) ?_
     rintro _ w77 ⟨a78, c79, rfl, H'⟩
     have H := H.back (M1 := []) (W1 := [⟨Sb, 5, .slice (some ⟨b75, 0, none⟩) 0 (xs.length + 12), []⟩]) H'
     have H : Hp w S [] [] [⟨Sb, 5, .slice a78 ((sealF [] (wordB (BitVec.ofNat 32 xs.length))).length) c79, (sealF [] (wordB (BitVec.ofNat 32 xs.length)))⟩] [Rp SB [.slice a71 ((wordB (BitVec.ofNat 32 xs.length)).length) c72] (wordB (BitVec.ofNat 32 xs.length)), Rp SB [.slice a xs.length c] xs] _ := H
     refine RW.callS (d := some 17) (r := [(11, .seq), (12, .seq)]) (g := 115) (args := #[.slice a78 ((sealF [] (wordB (BitVec.ofNat 32 xs.length))).length) c79, .slice a xs.length c]) (by as_aux_lemma => kernel_rfl) (sealed_spec (xs := (sealF [] (wordB (BitVec.ofNat 32 xs.length)))) (bs := xs) (by first | omega | (simp only [List.length_nil, wordB_len, sealF, List.length_append]; omega)) (by first | omega | (simp only [List.length_nil, wordB_len, sealF, List.length_append]; omega)) ((H.lend (M1 := []) (W1 := [⟨Sb, 5, .slice a78 ((sealF [] (wordB (BitVec.ofNat 32 xs.length))).length) c79, (sealF [] (wordB (BitVec.ofNat 32 xs.length)))⟩])).pick [1] rfl)) ?_
     rintro _ w80 ⟨a81, c82, rfl, H'⟩
     have H := H.back (M1 := []) (W1 := [⟨Sb, 5, .slice a78 ((sealF [] (wordB (BitVec.ofNat 32 xs.length))).length) c79, (sealF [] (wordB (BitVec.ofNat 32 xs.length)))⟩]) H'
     have H : Hp w S [] [] [⟨Sb, 5, .slice a81 ((sealF (sealF [] (wordB (BitVec.ofNat 32 xs.length))) xs).length) c82, (sealF (sealF [] (wordB (BitVec.ofNat 32 xs.length))) xs)⟩] [Rp SB [.slice a71 ((wordB (BitVec.ofNat 32 xs.length)).length) c72] (wordB (BitVec.ofNat 32 xs.length)), Rp SB [.slice a xs.length c] xs] _ := H
     refine qF 2 [(2, .slice a81 ((sealF (sealF [] (wordB (BitVec.ofNat 32 xs.length))) xs).length) c82), (3, .I 0)] ?_
     have H : Hp w S [] [] [⟨Sb, 5, .slice a81 (frameF xs).length c82, frameF xs⟩] [Rp SB [.slice a71 ((wordB (BitVec.ofNat 32 xs.length)).length) c72] (wordB (BitVec.ofNat 32 xs.length)), Rp SB [.slice a xs.length c] xs] _ := H
     have H := H.pick [1] rfl
     exact hJ2 (a81, c82) _ ⟨H, trivial⟩
  ·
   rintro ⟨a9, c9⟩ w3 ⟨H, -⟩
   refine qT (.tuple #[.slice a9 (frameF xs).length c9, .I 0]) Tryz.func57 ?_
   exact ⟨_, rfl, H.done, _, _, rfl, H.pick [] rfl⟩
end Go.Proofs.YtdnibpclkhenmaaGreatDoor
