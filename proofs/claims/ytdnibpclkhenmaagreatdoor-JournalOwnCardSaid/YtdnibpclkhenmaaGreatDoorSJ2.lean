import Derived.Test.YtdnibpclkhenmaaGreatDoorSBxA
import Derived.Test.YtdnibpclkhenmaaGreatDoorSJ1
namespace Go.Proofs.YtdnibpclkhenmaaGreatDoor
open Go.BX
theorem word_spec {S : Nat → Prop} {w : World} (n : BitVec 32) :
 Calls Tryz.prog 116 #[.int .u32 ((n.toNat : Nat) : Int)] w (Ret fun v w' => Ext w w' ∧ ∃ (a : Option Addr) (c : Nat), v = .slice a (wordB n).length c ∧ SB.rep (Nw S w) w' [.slice a (wordB n).length c] (wordB n)) := by
 refine uS1 Tryz.func116 ?_
 have H := Hp.startF (w := w) (S := S) (G := []) .nil
 refine uR 3 [.c [1, 0], .c [2]] ?_
 refine qG (sq 0 13) ?_
 refine uP 1 ?_
 refine RW.pv (κ := .seq) (d := some 4) (r := (sq 2 13)) (v := .int .u8 (IntKind.u8.wrap (((n.toNat : Nat) : Int)))) (v' := .int .u8 (((n.setWidth 8).toNat : Nat) : Int)) (by as_aux_lemma => kernel_rfl) (bv_cv32_8 _) ?_
 refine uP 1 ?_
 refine RW.pv (κ := .seq) (d := some 6) (r := (sq 4 13)) (v := .int .u32 (((n.toNat : Nat) : Int).fdiv (2 ^ 8))) (v' := .int .u32 ((((n >>> 8).toNat : Nat) : Int))) (by as_aux_lemma => kernel_rfl) (bv_shr32 _ 8) ?_
 refine RW.pv (κ := .seq) (d := some 7) (r := (sq 5 13)) (v := .int .u8 (IntKind.u8.wrap ((((n >>> 8).toNat : Nat) : Int)))) (v' := .int .u8 ((((n >>> 8).setWidth 8).toNat : Nat) : Int)) (by as_aux_lemma => kernel_rfl) (bv_cv32_8 _) ?_
 refine uP 1 ?_
 refine RW.pv (κ := .seq) (d := some 9) (r := (sq 7 13)) (v := .int .u32 (((n.toNat : Nat) : Int).fdiv (2 ^ 16))) (v' := .int .u32 ((((n >>> 16).toNat : Nat) : Int))) (by as_aux_lemma => kernel_rfl) (bv_shr32 _ 16) ?_
 refine RW.pv (κ := .seq) (d := some 10) (r := (sq 8 13)) (v := .int .u8 (IntKind.u8.wrap ((((n >>> 16).toNat : Nat) : Int)))) (v' := .int .u8 ((((n >>> 16).setWidth 8).toNat : Nat) : Int)) (by as_aux_lemma => kernel_rfl) (bv_cv32_8 _) ?_
 refine uP 1 ?_
 refine RW.pv (κ := .seq) (d := some 12) (r := (sq 10 13)) (v := .int .u32 (((n.toNat : Nat) : Int).fdiv (2 ^ 24))) (v' := .int .u32 ((((n >>> 24).toNat : Nat) : Int))) (by as_aux_lemma => kernel_rfl) (bv_shr32 _ 24) ?_
 refine RW.pv (κ := .seq) (d := some 13) (r := (sq 11 13)) (v := .int .u8 (IntKind.u8.wrap ((((n >>> 24).toNat : Nat) : Int)))) (v' := .int .u8 ((((n >>> 24).setWidth 8).toNat : Nat) : Int)) (by as_aux_lemma => kernel_rfl) (bv_cv32_8 _) ?_
 refine RW.new (κ := .seq) (d := some 14) (r := (sq 12 13)) (o := .cells #[.int .u8 (((n.setWidth 8).toNat : Nat) : Int), .int .u8 ((((n >>> 8).setWidth 8).toNat : Nat) : Int), .int .u8 ((((n >>> 16).setWidth 8).toNat : Nat) : Int), .int .u8 ((((n >>> 24).setWidth 8).toNat : Nat) : Int)] 5 (0, 0)) (v := fun b => .slice (some ⟨b, 0, none⟩) 4 4) (fun b => by as_aux_lemma => kernel_rfl) (nofun) H ?_
 intro e _ H
 refine uF 1 ?_
 refine qT (.slice (some ⟨e, 0, none⟩) 4 4) Tryz.func116 ?_
 have H := H.freeze 0 rfl Sb ([n.setWidth 8, (n >>> 8).setWidth 8, (n >>> 16).setWidth 8, (n >>> 24).setWidth 8] : List (BitVec 8)) 4 (by simp [maxLen]) (by first | exact Nat.le_refl _ | simp) (EsP.cons (c := [.int .u8 (((n.setWidth 8).toNat : Nat) : Int)]) Shape.bv_mk (EsP.cons (c := [.int .u8 ((((n >>> 8).setWidth 8).toNat : Nat) : Int)]) Shape.bv_mk (EsP.cons (c := [.int .u8 ((((n >>> 16).setWidth 8).toNat : Nat) : Int)]) Shape.bv_mk (EsP.cons (c := [.int .u8 ((((n >>> 24).setWidth 8).toNat : Nat) : Int)]) Shape.bv_mk EsP.nil))))
 have H : Hp w S [] [] [] [Rp SB [.slice (some ⟨e, 0, none⟩) 4 4] ([n.setWidth 8, (n >>> 8).setWidth 8, (n >>> 16).setWidth 8, (n >>> 24).setWidth 8] : List (BitVec 8))] _ := H
 exact ⟨_, rfl, H.done, _, _, rfl, H.out (H.rp 0 rfl)⟩
theorem sealed_spec {S : Nat → Prop} {w : World} {O : List Nat} {xs bs : List (BitVec 8)} {a b : Option Addr} {c d : Nat} (hl1 : xs.length ≤ 100000000) (hl2 : bs.length ≤ 100000000) (H0 : Hp w S O [] [⟨Sb, 5, .slice a xs.length c, xs⟩] [Rp SB [.slice b bs.length d] bs] w) :
 Calls Tryz.prog 115 #[.slice a xs.length c, .slice b bs.length d] w (Ret fun v w' => ∃ (a' : Option Addr) (c' : Nat), v = .slice a' (sealF xs bs).length c' ∧ Hp w S O [] [⟨Sb, 5, .slice a' (sealF xs bs).length c', sealF xs bs⟩] [] w') := by
 refine uS1 Tryz.func115 ?_
 have H := H0
 refine uR 3 [.c [1, 0], .c [2]] ?_
 refine qG (sq 0 8) ?_
 refine uP 2 ?_
 refine uA 23 23 1 (xs ++ bs) H 0 rfl 0 rfl (rfl) (by rw [List.length_append]; omega) ?_
 intro i j _ H _
 have H : Hp w S O [] [⟨Sb, 5, .slice i (xs ++ bs).length j, (xs ++ bs)⟩] [_] _ := H
 refine uP 1 ?_
 refine uK (crc_spec (H.rp 0 rfl)) ?_
 rintro _ _ k rfl
 have H := H.ext k
 refine uK (word_spec (S := Av S w O (idsOf [] [⟨Sb, 5, .slice i (xs ++ bs).length j, (xs ++ bs)⟩])) (crcF bs)) ?_
 rintro _ _ g ⟨_, _, rfl, h⟩
 have H := H.addM g h
 refine uA 23 23 1 (sealF xs bs) H 0 rfl 0 rfl (rfl) (by unfold sealF; simp only [List.length_append, wordB_len]; omega) ?_
 intro e f _ H _
 have H : Hp w S O [] [⟨Sb, 5, .slice e (sealF xs bs).length f, (sealF xs bs)⟩] [_, _] _ := H
 refine uF 1 ?_
 refine qT (.slice e (sealF xs bs).length f) Tryz.func115 ?_
 have H := H.drop (M' := []) (W' := [_]) (List.nil_sublist _) (by repeat (first | exact List.Sublist.refl _ | exact List.nil_sublist _ | apply List.Sublist.cons_cons | apply List.Sublist.cons))
 exact ⟨_, rfl, _, _, rfl, H.pick [] rfl⟩
theorem frame_spec {S : Nat → Prop} {w : World} {xs : List (BitVec 8)} {a : Option Addr} {c : Nat} (h : SB.rep S w [.slice a xs.length c] xs) (hl : xs.length ≤ 4194304) :
 Calls Tryz.prog 57 #[.slice a xs.length c] w (Ret fun v w' => Ext w w' ∧ ∃ (a' : Option Addr) (c' : Nat), v = .tuple #[.slice a' (frameF xs).length c', .I 0] ∧ Hp w S [] [] [⟨Sb, 5, .slice a' (frameF xs).length c', frameF xs⟩] [] w') := by
 refine uS1 Tryz.func57 ?_
 have H := Hp.startF (.rp h .nil)
 refine uR 5 [.c [1, 0, 1], .c [2]] ?_
 refine qD ((((xs.length : Nat) : Int) : Int) > 4194304) (fun h1 => ?_) (fun h1 => ?_)
 ·
  omega
 ·
  refine qR 2 [.c [2, 0], .c [3]] [(0, .slice a xs.length c)] ?_
  refine WK.joinV (α := Option Addr × Nat) (fun (j, i) w_ => Hp w S [] [] [⟨Sb, 5, .slice j (frameF xs).length i, frameF xs⟩] [Rp SB [.slice a xs.length c] xs] w_ ∧ True) (fun (j, i) => [(2, .slice j (frameF xs).length i), (3, .I 0)]) [Cq Tryz.prog 57 [3]] (fun b => ?_) ?_
  ·
   refine WK.drawO1 [0, 1, 4, 5, 9] [(16, .slice a xs.length c), (12, .I ((xs.length : Nat) : Int)), (11, .slice a xs.length c), (8, .I ((xs.length : Nat) : Int)), (7, .slice a xs.length c), (0, .slice a xs.length c)] (.node [] (.cons 2 (.node [] (.cons 3 (.leaf [(6, .seq), (7, .seq), (8, .seq), (10, .seq), (11, .seq), (12, .seq)]) (.cons 6 (.node [] (.cons 3 (.leaf [(7, .seq), (8, .seq), (10, .seq), (11, .seq), (12, .seq)]) (.cons 7 (.leaf [(3, .seq), (8, .seq), (10, .seq), (11, .seq), (12, .seq)]) .nil))) .nil))) (.cons 6 (.node [] (.cons 2 (.node [] (.cons 3 (.leaf [(7, .seq), (8, .seq), (10, .seq), (11, .seq), (12, .seq)]) (.cons 7 (.leaf [(3, .seq), (8, .seq), (10, .seq), (11, .seq), (12, .seq)]) .nil))) (.cons 7 (.leaf [(2, .seq), (3, .seq), (8, .seq), (10, .seq), (11, .seq), (12, .seq)]) .nil))) .nil))) Tryz_mixed (by as_aux_lemma => kernel_rfl) (by as_aux_lemma => kernel_rfl) (by as_aux_lemma => kernel_rfl) ?_
   have H := H.draw
   generalize ({ w with drawn := w.drawn + 1 } : World) = w4 at H ⊢
   refine RO.node' [] (by as_aux_lemma => kernel_rfl) ?_
   refine RO.fin 0 [8, 12, 16] [(8, .I ((xs.length : Nat) : Int)), (12, .I ((xs.length : Nat) : Int)), (16, .slice a xs.length c)] (by as_aux_lemma => kernel_rfl) ?_
   refine (ROB.cons' ?_ (ROB.cons' ?_ ROB.nil'))
   ·
    refine RO.node' [(2, .seq)] (by as_aux_lemma => kernel_rfl) ?_
    refine uI (((xs.length : Nat) : Int) + 12) ?_
    refine RO.fin 0 [9, 12, 16] [(9, .I (((xs.length : Nat) : Int) + 12)), (12, .I ((xs.length : Nat) : Int)), (16, .slice a xs.length c)] (by as_aux_lemma => kernel_rfl) ?_
    refine (ROB.cons' ?_ (ROB.cons' ?_ ROB.nil'))
    ·
     refine RO.leaf' [(3, .seq), (6, .seq), (7, .seq), (8, .seq), (10, .seq), (11, .seq), (12, .seq)] (by as_aux_lemma => kernel_rfl) ?_
     refine RW.makeW Sb (κ := .seq) (d := some 10) (r := [(6, .seq), (7, .seq), (8, .seq), (10, .seq), (11, .seq), (12, .seq)]) (T := 23) (e := 5) (by_ := 1) (v0 := .int .u8 0) (0#8 : BitVec 8) (kl := .i64) (kc := .i64) (lv := 0) (cv := ((xs.length : Nat) : Int) + 12) (by as_aux_lemma => kernel_rfl) (nofun) (by as_aux_lemma => kernel_rfl) rfl H 0 (xs.length + 12) (by omega) (by omega) (by omega) (by omega) (by omega) (fun _ _ => rfl) ?_
     intro Q _ H
     have H : Hp w S [] [] [⟨Sb, 5, .slice (some ⟨Q, 0, none⟩) 0 (xs.length + 12), []⟩] [_] _ := H
     refine RW.pv (κ := .seq) (d := some 13) (r := [(7, .seq), (8, .seq), (10, .seq), (11, .seq), (12, .seq)]) (v := .int .u32 (IntKind.u32.wrap (((xs.length : Nat) : Int)))) (v' := .int .u32 (((BitVec.ofNat 32 xs.length).toNat : Nat) : Int)) (by as_aux_lemma => kernel_rfl) ((wrap_bv32 _).trans (by rw [bv_nat])) ?_
     refine uK (word_spec (S := Av S w [] (idsOf [] [⟨Sb, 5, .slice (some ⟨Q, 0, none⟩) 0 (xs.length + 12), []⟩])) (BitVec.ofNat 32 xs.length)) ?_
     rintro _ _ R ⟨_, i, rfl, U⟩
     have H := H.addM R U
     refine uKS (sealed_spec (xs := []) (bs := (wordB (BitVec.ofNat 32 xs.length))) (by first | omega | (simp only [List.length_nil, wordB_len, sealF, List.length_append]; omega)) (by first | omega | (simp only [List.length_nil, wordB_len, sealF, List.length_append]; omega)) ((H.lend (M1 := []) (W1 := [⟨Sb, 5, .slice (some ⟨Q, 0, none⟩) 0 (xs.length + 12), []⟩])).pick [0] rfl)) ?_
     rintro _ _ ⟨k, l, rfl, H'⟩
     have H := H.back (M1 := []) (W1 := [⟨Sb, 5, .slice (some ⟨Q, 0, none⟩) 0 (xs.length + 12), []⟩]) H'
     have H : Hp w S [] [] [⟨Sb, 5, .slice k ((sealF [] (wordB (BitVec.ofNat 32 xs.length))).length) l, (sealF [] (wordB (BitVec.ofNat 32 xs.length)))⟩] [_, _] _ := H
     refine uKS (sealed_spec (xs := (sealF [] (wordB (BitVec.ofNat 32 xs.length)))) (bs := xs) (by first | omega | (simp only [List.length_nil, wordB_len, sealF, List.length_append]; omega)) (by first | omega | (simp only [List.length_nil, wordB_len, sealF, List.length_append]; omega)) ((H.lend (M1 := []) (W1 := [⟨Sb, 5, .slice k ((sealF [] (wordB (BitVec.ofNat 32 xs.length))).length) l, (sealF [] (wordB (BitVec.ofNat 32 xs.length)))⟩])).pick [1] rfl)) ?_
     rintro _ _ ⟨m, n, rfl, H'⟩
     have H := H.back (M1 := []) (W1 := [⟨Sb, 5, .slice k ((sealF [] (wordB (BitVec.ofNat 32 xs.length))).length) l, (sealF [] (wordB (BitVec.ofNat 32 xs.length)))⟩]) H'
     have H : Hp w S [] [] [⟨Sb, 5, .slice m ((sealF (sealF [] (wordB (BitVec.ofNat 32 xs.length))) xs).length) n, (sealF (sealF [] (wordB (BitVec.ofNat 32 xs.length))) xs)⟩] [_, _] _ := H
     refine uF 2 ?_
     have H : Hp w S [] [] [⟨Sb, 5, .slice m (frameF xs).length n, frameF xs⟩] [_, _] _ := H
     have H := H.pick [1] rfl
     exact uB (b (m, n) _ ⟨H, trivial⟩)
    ·
     refine RO.node' [(6, .seq)] (by as_aux_lemma => kernel_rfl) ?_
     refine RW.pv (κ := .seq) (d := some 13) (r := []) (v := .int .u32 (IntKind.u32.wrap (((xs.length : Nat) : Int)))) (v' := .int .u32 (((BitVec.ofNat 32 xs.length).toNat : Nat) : Int)) (by as_aux_lemma => kernel_rfl) ((wrap_bv32 _).trans (by rw [bv_nat])) ?_
     refine RO.fin 0 [9, 13, 16] [(9, .I (((xs.length : Nat) : Int) + 12)), (13, .int .u32 (((BitVec.ofNat 32 xs.length).toNat : Nat) : Int)), (16, .slice a xs.length c)] (by as_aux_lemma => kernel_rfl) ?_
     refine (ROB.cons' ?_ (ROB.cons' ?_ ROB.nil'))
     ·
      refine RO.leaf' [(3, .seq), (7, .seq), (8, .seq), (10, .seq), (11, .seq), (12, .seq)] (by as_aux_lemma => kernel_rfl) ?_
      refine RW.makeW Sb (κ := .seq) (d := some 10) (r := [(7, .seq), (8, .seq), (10, .seq), (11, .seq), (12, .seq)]) (T := 23) (e := 5) (by_ := 1) (v0 := .int .u8 0) (0#8 : BitVec 8) (kl := .i64) (kc := .i64) (lv := 0) (cv := ((xs.length : Nat) : Int) + 12) (by as_aux_lemma => kernel_rfl) (nofun) (by as_aux_lemma => kernel_rfl) rfl H 0 (xs.length + 12) (by omega) (by omega) (by omega) (by omega) (by omega) (fun _ _ => rfl) ?_
      intro f _ H
      have H : Hp w S [] [] [⟨Sb, 5, .slice (some ⟨f, 0, none⟩) 0 (xs.length + 12), []⟩] [_] _ := H
      refine uK (word_spec (S := Av S w [] (idsOf [] [⟨Sb, 5, .slice (some ⟨f, 0, none⟩) 0 (xs.length + 12), []⟩])) (BitVec.ofNat 32 xs.length)) ?_
      rintro _ _ V ⟨_, _, rfl, W⟩
      have H := H.addM V W
      refine uKS (sealed_spec (xs := []) (bs := (wordB (BitVec.ofNat 32 xs.length))) (by first | omega | (simp only [List.length_nil, wordB_len, sealF, List.length_append]; omega)) (by first | omega | (simp only [List.length_nil, wordB_len, sealF, List.length_append]; omega)) ((H.lend (M1 := []) (W1 := [⟨Sb, 5, .slice (some ⟨f, 0, none⟩) 0 (xs.length + 12), []⟩])).pick [0] rfl)) ?_
      rintro _ _ ⟨o, p, rfl, H'⟩
      have H := H.back (M1 := []) (W1 := [⟨Sb, 5, .slice (some ⟨f, 0, none⟩) 0 (xs.length + 12), []⟩]) H'
      have H : Hp w S [] [] [⟨Sb, 5, .slice o ((sealF [] (wordB (BitVec.ofNat 32 xs.length))).length) p, (sealF [] (wordB (BitVec.ofNat 32 xs.length)))⟩] [_, _] _ := H
      refine uKS (sealed_spec (xs := (sealF [] (wordB (BitVec.ofNat 32 xs.length)))) (bs := xs) (by first | omega | (simp only [List.length_nil, wordB_len, sealF, List.length_append]; omega)) (by first | omega | (simp only [List.length_nil, wordB_len, sealF, List.length_append]; omega)) ((H.lend (M1 := []) (W1 := [⟨Sb, 5, .slice o ((sealF [] (wordB (BitVec.ofNat 32 xs.length))).length) p, (sealF [] (wordB (BitVec.ofNat 32 xs.length)))⟩])).pick [1] rfl)) ?_
      rintro _ _ ⟨q, s, rfl, H'⟩
      have H := H.back (M1 := []) (W1 := [⟨Sb, 5, .slice o ((sealF [] (wordB (BitVec.ofNat 32 xs.length))).length) p, (sealF [] (wordB (BitVec.ofNat 32 xs.length)))⟩]) H'
      have H : Hp w S [] [] [⟨Sb, 5, .slice q ((sealF (sealF [] (wordB (BitVec.ofNat 32 xs.length))) xs).length) s, (sealF (sealF [] (wordB (BitVec.ofNat 32 xs.length))) xs)⟩] [_, _] _ := H
      refine uF 2 ?_
      have H : Hp w S [] [] [⟨Sb, 5, .slice q (frameF xs).length s, frameF xs⟩] [_, _] _ := H
      have H := H.pick [1] rfl
      exact uB (b (q, s) _ ⟨H, trivial⟩)
     ·
      refine RO.leaf' [(7, .seq), (3, .seq), (8, .seq), (10, .seq), (11, .seq), (12, .seq)] (by as_aux_lemma => kernel_rfl) ?_
      refine uK (word_spec (S := Av S w [] (idsOf [] [])) (BitVec.ofNat 32 xs.length)) ?_
      rintro _ _ X ⟨_, _, rfl, Y⟩
      have H := H.addM X Y
      refine RW.makeW Sb (κ := .seq) (d := some 10) (r := [(8, .seq), (10, .seq), (11, .seq), (12, .seq)]) (T := 23) (e := 5) (by_ := 1) (v0 := .int .u8 0) (0#8 : BitVec 8) (kl := .i64) (kc := .i64) (lv := 0) (cv := ((xs.length : Nat) : Int) + 12) (by as_aux_lemma => kernel_rfl) (nofun) (by as_aux_lemma => kernel_rfl) rfl H 0 (xs.length + 12) (by omega) (by omega) (by omega) (by omega) (by omega) (fun _ _ => rfl) ?_
      intro t _ H
      have H : Hp w S [] [] [⟨Sb, 5, .slice (some ⟨t, 0, none⟩) 0 (xs.length + 12), []⟩] [_, _] _ := H
      refine uKS (sealed_spec (xs := []) (bs := (wordB (BitVec.ofNat 32 xs.length))) (by first | omega | (simp only [List.length_nil, wordB_len, sealF, List.length_append]; omega)) (by first | omega | (simp only [List.length_nil, wordB_len, sealF, List.length_append]; omega)) ((H.lend (M1 := []) (W1 := [⟨Sb, 5, .slice (some ⟨t, 0, none⟩) 0 (xs.length + 12), []⟩])).pick [0] rfl)) ?_
      rintro _ _ ⟨u, x, rfl, H'⟩
      have H := H.back (M1 := []) (W1 := [⟨Sb, 5, .slice (some ⟨t, 0, none⟩) 0 (xs.length + 12), []⟩]) H'
      have H : Hp w S [] [] [⟨Sb, 5, .slice u ((sealF [] (wordB (BitVec.ofNat 32 xs.length))).length) x, (sealF [] (wordB (BitVec.ofNat 32 xs.length)))⟩] [_, _] _ := H
      refine uKS (sealed_spec (xs := (sealF [] (wordB (BitVec.ofNat 32 xs.length)))) (bs := xs) (by first | omega | (simp only [List.length_nil, wordB_len, sealF, List.length_append]; omega)) (by first | omega | (simp only [List.length_nil, wordB_len, sealF, List.length_append]; omega)) ((H.lend (M1 := []) (W1 := [⟨Sb, 5, .slice u ((sealF [] (wordB (BitVec.ofNat 32 xs.length))).length) x, (sealF [] (wordB (BitVec.ofNat 32 xs.length)))⟩])).pick [1] rfl)) ?_
      rintro _ _ ⟨y, z, rfl, H'⟩
      have H := H.back (M1 := []) (W1 := [⟨Sb, 5, .slice u ((sealF [] (wordB (BitVec.ofNat 32 xs.length))).length) x, (sealF [] (wordB (BitVec.ofNat 32 xs.length)))⟩]) H'
      have H : Hp w S [] [] [⟨Sb, 5, .slice y ((sealF (sealF [] (wordB (BitVec.ofNat 32 xs.length))) xs).length) z, (sealF (sealF [] (wordB (BitVec.ofNat 32 xs.length))) xs)⟩] [_, _] _ := H
      refine uF 2 ?_
      have H : Hp w S [] [] [⟨Sb, 5, .slice y (frameF xs).length z, frameF xs⟩] [_, _] _ := H
      have H := H.pick [1] rfl
      exact uB (b (y, z) _ ⟨H, trivial⟩)
   ·
    refine RO.node' [(6, .seq)] (by as_aux_lemma => kernel_rfl) ?_
    refine RW.pv (κ := .seq) (d := some 13) (r := []) (v := .int .u32 (IntKind.u32.wrap (((xs.length : Nat) : Int)))) (v' := .int .u32 (((BitVec.ofNat 32 xs.length).toNat : Nat) : Int)) (by as_aux_lemma => kernel_rfl) ((wrap_bv32 _).trans (by rw [bv_nat])) ?_
    refine RO.fin 0 [8, 13, 16] [(8, .I ((xs.length : Nat) : Int)), (13, .int .u32 (((BitVec.ofNat 32 xs.length).toNat : Nat) : Int)), (16, .slice a xs.length c)] (by as_aux_lemma => kernel_rfl) ?_
    refine (ROB.cons' ?_ (ROB.cons' ?_ ROB.nil'))
    ·
     refine RO.node' [(2, .seq)] (by as_aux_lemma => kernel_rfl) ?_
     refine uI (((xs.length : Nat) : Int) + 12) ?_
     refine RO.fin 0 [9, 13, 16] [(9, .I (((xs.length : Nat) : Int) + 12)), (13, .int .u32 (((BitVec.ofNat 32 xs.length).toNat : Nat) : Int)), (16, .slice a xs.length c)] (by as_aux_lemma => kernel_rfl) ?_
     refine (ROB.cons' ?_ (ROB.cons' ?_ ROB.nil'))
     ·
      refine RO.leaf' [(3, .seq), (7, .seq), (8, .seq), (10, .seq), (11, .seq), (12, .seq)] (by as_aux_lemma => kernel_rfl) ?_
      refine RW.makeW Sb (κ := .seq) (d := some 10) (r := [(7, .seq), (8, .seq), (10, .seq), (11, .seq), (12, .seq)]) (T := 23) (e := 5) (by_ := 1) (v0 := .int .u8 0) (0#8 : BitVec 8) (kl := .i64) (kc := .i64) (lv := 0) (cv := ((xs.length : Nat) : Int) + 12) (by as_aux_lemma => kernel_rfl) (nofun) (by as_aux_lemma => kernel_rfl) rfl H 0 (xs.length + 12) (by omega) (by omega) (by omega) (by omega) (by omega) (fun _ _ => rfl) ?_
      intro g _ H
      have H : Hp w S [] [] [⟨Sb, 5, .slice (some ⟨g, 0, none⟩) 0 (xs.length + 12), []⟩] [_] _ := H
      refine uK (word_spec (S := Av S w [] (idsOf [] [⟨Sb, 5, .slice (some ⟨g, 0, none⟩) 0 (xs.length + 12), []⟩])) (BitVec.ofNat 32 xs.length)) ?_
      rintro _ _ Z ⟨_, _, rfl, a0⟩
      have H := H.addM Z a0
      refine uKS (sealed_spec (xs := []) (bs := (wordB (BitVec.ofNat 32 xs.length))) (by first | omega | (simp only [List.length_nil, wordB_len, sealF, List.length_append]; omega)) (by first | omega | (simp only [List.length_nil, wordB_len, sealF, List.length_append]; omega)) ((H.lend (M1 := []) (W1 := [⟨Sb, 5, .slice (some ⟨g, 0, none⟩) 0 (xs.length + 12), []⟩])).pick [0] rfl)) ?_
      rintro _ _ ⟨A, B, rfl, H'⟩
      have H := H.back (M1 := []) (W1 := [⟨Sb, 5, .slice (some ⟨g, 0, none⟩) 0 (xs.length + 12), []⟩]) H'
      have H : Hp w S [] [] [⟨Sb, 5, .slice A ((sealF [] (wordB (BitVec.ofNat 32 xs.length))).length) B, (sealF [] (wordB (BitVec.ofNat 32 xs.length)))⟩] [_, _] _ := H
      refine uKS (sealed_spec (xs := (sealF [] (wordB (BitVec.ofNat 32 xs.length)))) (bs := xs) (by first | omega | (simp only [List.length_nil, wordB_len, sealF, List.length_append]; omega)) (by first | omega | (simp only [List.length_nil, wordB_len, sealF, List.length_append]; omega)) ((H.lend (M1 := []) (W1 := [⟨Sb, 5, .slice A ((sealF [] (wordB (BitVec.ofNat 32 xs.length))).length) B, (sealF [] (wordB (BitVec.ofNat 32 xs.length)))⟩])).pick [1] rfl)) ?_
      rintro _ _ ⟨C, D, rfl, H'⟩
      have H := H.back (M1 := []) (W1 := [⟨Sb, 5, .slice A ((sealF [] (wordB (BitVec.ofNat 32 xs.length))).length) B, (sealF [] (wordB (BitVec.ofNat 32 xs.length)))⟩]) H'
      have H : Hp w S [] [] [⟨Sb, 5, .slice C ((sealF (sealF [] (wordB (BitVec.ofNat 32 xs.length))) xs).length) D, (sealF (sealF [] (wordB (BitVec.ofNat 32 xs.length))) xs)⟩] [_, _] _ := H
      refine uF 2 ?_
      have H : Hp w S [] [] [⟨Sb, 5, .slice C (frameF xs).length D, frameF xs⟩] [_, _] _ := H
      have H := H.pick [1] rfl
      exact uB (b (C, D) _ ⟨H, trivial⟩)
     ·
      refine RO.leaf' [(7, .seq), (3, .seq), (8, .seq), (10, .seq), (11, .seq), (12, .seq)] (by as_aux_lemma => kernel_rfl) ?_
      refine uK (word_spec (S := Av S w [] (idsOf [] [])) (BitVec.ofNat 32 xs.length)) ?_
      rintro _ _ b0 ⟨_, _, rfl, c0⟩
      have H := H.addM b0 c0
      refine RW.makeW Sb (κ := .seq) (d := some 10) (r := [(8, .seq), (10, .seq), (11, .seq), (12, .seq)]) (T := 23) (e := 5) (by_ := 1) (v0 := .int .u8 0) (0#8 : BitVec 8) (kl := .i64) (kc := .i64) (lv := 0) (cv := ((xs.length : Nat) : Int) + 12) (by as_aux_lemma => kernel_rfl) (nofun) (by as_aux_lemma => kernel_rfl) rfl H 0 (xs.length + 12) (by omega) (by omega) (by omega) (by omega) (by omega) (fun _ _ => rfl) ?_
      intro E _ H
      have H : Hp w S [] [] [⟨Sb, 5, .slice (some ⟨E, 0, none⟩) 0 (xs.length + 12), []⟩] [_, _] _ := H
      refine uKS (sealed_spec (xs := []) (bs := (wordB (BitVec.ofNat 32 xs.length))) (by first | omega | (simp only [List.length_nil, wordB_len, sealF, List.length_append]; omega)) (by first | omega | (simp only [List.length_nil, wordB_len, sealF, List.length_append]; omega)) ((H.lend (M1 := []) (W1 := [⟨Sb, 5, .slice (some ⟨E, 0, none⟩) 0 (xs.length + 12), []⟩])).pick [0] rfl)) ?_
      rintro _ _ ⟨F, G, rfl, H'⟩
      have H := H.back (M1 := []) (W1 := [⟨Sb, 5, .slice (some ⟨E, 0, none⟩) 0 (xs.length + 12), []⟩]) H'
      have H : Hp w S [] [] [⟨Sb, 5, .slice F ((sealF [] (wordB (BitVec.ofNat 32 xs.length))).length) G, (sealF [] (wordB (BitVec.ofNat 32 xs.length)))⟩] [_, _] _ := H
      refine uKS (sealed_spec (xs := (sealF [] (wordB (BitVec.ofNat 32 xs.length)))) (bs := xs) (by first | omega | (simp only [List.length_nil, wordB_len, sealF, List.length_append]; omega)) (by first | omega | (simp only [List.length_nil, wordB_len, sealF, List.length_append]; omega)) ((H.lend (M1 := []) (W1 := [⟨Sb, 5, .slice F ((sealF [] (wordB (BitVec.ofNat 32 xs.length))).length) G, (sealF [] (wordB (BitVec.ofNat 32 xs.length)))⟩])).pick [1] rfl)) ?_
      rintro _ _ ⟨J, K, rfl, H'⟩
      have H := H.back (M1 := []) (W1 := [⟨Sb, 5, .slice F ((sealF [] (wordB (BitVec.ofNat 32 xs.length))).length) G, (sealF [] (wordB (BitVec.ofNat 32 xs.length)))⟩]) H'
      have H : Hp w S [] [] [⟨Sb, 5, .slice J ((sealF (sealF [] (wordB (BitVec.ofNat 32 xs.length))) xs).length) K, (sealF (sealF [] (wordB (BitVec.ofNat 32 xs.length))) xs)⟩] [_, _] _ := H
      refine uF 2 ?_
      have H : Hp w S [] [] [⟨Sb, 5, .slice J (frameF xs).length K, frameF xs⟩] [_, _] _ := H
      have H := H.pick [1] rfl
      exact uB (b (J, K) _ ⟨H, trivial⟩)
    ·
     refine RO.leaf' [(7, .seq), (2, .seq), (3, .seq), (8, .seq), (10, .seq), (11, .seq), (12, .seq)] (by as_aux_lemma => kernel_rfl) ?_
     refine uK (word_spec (S := Av S w [] (idsOf [] [])) (BitVec.ofNat 32 xs.length)) ?_
     rintro _ _ d0 ⟨_, _, rfl, e0⟩
     have H := H.addM d0 e0
     refine uI (((xs.length : Nat) : Int) + 12) ?_
     refine RW.makeW Sb (κ := .seq) (d := some 10) (r := [(8, .seq), (10, .seq), (11, .seq), (12, .seq)]) (T := 23) (e := 5) (by_ := 1) (v0 := .int .u8 0) (0#8 : BitVec 8) (kl := .i64) (kc := .i64) (lv := 0) (cv := ((xs.length : Nat) : Int) + 12) (by as_aux_lemma => kernel_rfl) (nofun) (by as_aux_lemma => kernel_rfl) rfl H 0 (xs.length + 12) (by omega) (by omega) (by omega) (by omega) (by omega) (fun _ _ => rfl) ?_
     intro L _ H
     have H : Hp w S [] [] [⟨Sb, 5, .slice (some ⟨L, 0, none⟩) 0 (xs.length + 12), []⟩] [_, _] _ := H
     refine uKS (sealed_spec (xs := []) (bs := (wordB (BitVec.ofNat 32 xs.length))) (by first | omega | (simp only [List.length_nil, wordB_len, sealF, List.length_append]; omega)) (by first | omega | (simp only [List.length_nil, wordB_len, sealF, List.length_append]; omega)) ((H.lend (M1 := []) (W1 := [⟨Sb, 5, .slice (some ⟨L, 0, none⟩) 0 (xs.length + 12), []⟩])).pick [0] rfl)) ?_
     rintro _ _ ⟨M, N, rfl, H'⟩
     have H := H.back (M1 := []) (W1 := [⟨Sb, 5, .slice (some ⟨L, 0, none⟩) 0 (xs.length + 12), []⟩]) H'
     have H : Hp w S [] [] [⟨Sb, 5, .slice M ((sealF [] (wordB (BitVec.ofNat 32 xs.length))).length) N, (sealF [] (wordB (BitVec.ofNat 32 xs.length)))⟩] [_, _] _ := H
     refine uKS (sealed_spec (xs := (sealF [] (wordB (BitVec.ofNat 32 xs.length)))) (bs := xs) (by first | omega | (simp only [List.length_nil, wordB_len, sealF, List.length_append]; omega)) (by first | omega | (simp only [List.length_nil, wordB_len, sealF, List.length_append]; omega)) ((H.lend (M1 := []) (W1 := [⟨Sb, 5, .slice M ((sealF [] (wordB (BitVec.ofNat 32 xs.length))).length) N, (sealF [] (wordB (BitVec.ofNat 32 xs.length)))⟩])).pick [1] rfl)) ?_
     rintro _ _ ⟨O, P, rfl, H'⟩
     have H := H.back (M1 := []) (W1 := [⟨Sb, 5, .slice M ((sealF [] (wordB (BitVec.ofNat 32 xs.length))).length) N, (sealF [] (wordB (BitVec.ofNat 32 xs.length)))⟩]) H'
     have H : Hp w S [] [] [⟨Sb, 5, .slice O ((sealF (sealF [] (wordB (BitVec.ofNat 32 xs.length))) xs).length) P, (sealF (sealF [] (wordB (BitVec.ofNat 32 xs.length))) xs)⟩] [_, _] _ := H
     refine uF 2 ?_
     have H : Hp w S [] [] [⟨Sb, 5, .slice O (frameF xs).length P, frameF xs⟩] [_, _] _ := H
     have H := H.pick [1] rfl
     exact uB (b (O, P) _ ⟨H, trivial⟩)
  ·
   rintro ⟨j, i⟩ _ ⟨H, -⟩
   refine qT (.tuple #[.slice j (frameF xs).length i, .I 0]) Tryz.func57 ?_
   exact ⟨_, rfl, H.done, _, _, rfl, H.pick [] rfl⟩
end Go.Proofs.YtdnibpclkhenmaaGreatDoor
