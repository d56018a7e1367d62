import Derived.Test.YtppcdmbkgficiaaSV3
namespace Go.Proofs.Ytppcdmbkgficiaa
open Go.BX
set_option maxHeartbeats 2000000 in
theorem object22_ok {S : Nat → Prop} {w : World} {xs : List (BitVec 8)} {a : Option Addr} {c : Nat} (h : SB.rep S w [.slice a xs.length c] xs) {k n : Nat} (hs : xs.length ≤ 65536) (hk : 1 ≤ k) (hkn : k ≤ n) (hn : n ≤ 255) :
 Calls Try.prog 52 #[.slice a xs.length c, .I k, .I n] w (Ret fun v w' => Ext w w' ∧ ∃ (ds : List Value) (a : Option Addr) (c : Nat), v = .tuple #[.agg ds.toArray, .slice a (chksOf xs k n).length c, .bool true] ∧ objS.rep (Nw S w) w' ds (objOf xs n) ∧ (Shape.slice chkS).rep (Nw S w) w' [.slice a (chksOf xs k n).length c] (chksOf xs k n)) := by
 have hhl : (headsOf ⟨7, 0, 2⟩ xs.length k (enc xs k n)).length = (enc xs k n).length := headsOf_len
 refine qS (fn := Try.f52) (n := 82) (σ := [(0, .slice a xs.length c), (1, .I k), (2, .I n)]) Try.func52 ?_
 have H := Hp.startF (w := w) (S := S) (G := [Rp SB [.slice a xs.length c] xs]) (.rp h .nil)
 refine qR 1 [.c [0], .c [1]] [(0, .slice a xs.length c), (1, .I k), (2, .I n)] ?_
 refine qG (sq 0 3) ?_
 refine qB .seq 6 (sq 1 3) #[.string (⟨#[]⟩), .int .u64 0, .I 0, .int .u32 0, .I 0, .int .u64 0, .slice none 0 0] 102 H ?_
 intro b1 w2 H
 refine qF 2 [(0, .slice a xs.length c), (1, .I k), (2, .I n), (6, .P b1 0)] ?_
 refine qR 1 [.c [1, 0], .c [2]] [(0, .slice a xs.length c), (1, .I k), (2, .I n), (6, .P b1 0)] ?_
 refine qG (sq 0 9) ?_
 refine qP 3 (sq 3 9) [(0, .slice a xs.length c), (1, .I k), (2, .I n), (6, .P b1 0), (17, .slice a xs.length c), (18, .I k), (19, .I n)] ?_
 refine qK .seq (some 20) (sq 4 9) 29 #[.slice a xs.length c, .I k, .I n] (encode_ok (xs := xs) k n (H.rp 0 rfl) hs hk hkn hn) ?_
 rintro _ w3 hE6 ⟨a4, c5, rfl, hr7⟩
 have H := H.addN hE6 (F := Rp (Shape.slice SB) [.slice a4 (enc xs k n).length c5] (enc xs k n)) hr7
 have hel := enc_len (xs := xs) hkn
 refine qF 5 [(0, .slice a xs.length c), (1, .I k), (2, .I n), (6, .P b1 0), (9, .slice a4 (enc xs k n).length c5), (10, .I 0)] ?_
 refine qR 1 [.c [2, 0], .c [3]] [(0, .slice a xs.length c), (1, .I k), (2, .I n), (6, .P b1 0), (9, .slice a4 (enc xs k n).length c5), (10, .I 0)] ?_
 refine qG (sq 0 11) ?_
 refine qP 5 (sq 5 11) [(0, .slice a xs.length c), (2, .I n), (6, .P b1 0), (9, .slice a4 (enc xs k n).length c5), (10, .I 0), (24, .slice a4 (enc xs k n).length c5), (25, .agg #[.int .u64 7, .I 0, .int .u64 2]), (27, .I ((xs.length : Nat) : Int)), (28, .I k)] ?_
 refine qK .seq (some 29) (sq 6 11) 38 #[.slice a4 (enc xs k n).length c5, .agg #[.int .u64 7, .I 0, .int .u64 2], .I ((xs.length : Nat) : Int), .I k] (heads_ok (S := Av S w [] (idsOf [(b1, .cells #[.string (⟨#[]⟩), .int .u64 0, .I 0, .int .u32 0, .I 0, .int .u64 0, .slice none 0 0] 102 (0, 0))] [])) (cs := enc xs k n) (id := ⟨7, 0, 2⟩) xs.length k (H.rp 0 rfl) (cid_mk (Shape.int_mk (by decide)) (Shape.int_mk (by decide)) (Shape.int_mk (by decide))) (by omega) (by omega) (by omega) (by omega) (encD_all)) ?_
 rintro _ w8 hE11 ⟨a9, c10, rfl, hr12⟩
 have H := H.addN hE11 (F := Rp (Shape.slice hdrS) [.slice a9 ((headsOf (⟨7, 0, 2⟩) xs.length k (enc xs k n)).length) c10] (headsOf (⟨7, 0, 2⟩) xs.length k (enc xs k n))) hr12
 refine qF 5 [(0, .slice a xs.length c), (2, .I n), (6, .P b1 0), (9, .slice a4 (enc xs k n).length c5), (10, .I 0), (11, .slice a9 ((headsOf (⟨7, 0, 2⟩) xs.length k (enc xs k n)).length) c10), (12, .I 0)] ?_
 refine qR 1 [.c [3, 0], .c [4]] [(0, .slice a xs.length c), (2, .I n), (6, .P b1 0), (9, .slice a4 (enc xs k n).length c5), (10, .I 0), (11, .slice a9 ((headsOf (⟨7, 0, 2⟩) xs.length k (enc xs k n)).length) c10), (12, .I 0)] ?_
 refine qG (sq 0 7) ?_
 refine qP 3 (sq 3 7) [(2, .I n), (6, .P b1 0), (9, .slice a4 (enc xs k n).length c5), (10, .I 0), (11, .slice a9 ((headsOf (⟨7, 0, 2⟩) xs.length k (enc xs k n)).length) c10), (12, .I 0), (33, .I ((xs.length : Nat) : Int)), (34, .slice a xs.length c)] ?_
 refine qK .seq (some 35) (sq 4 7) 74 #[.slice a xs.length c] (crc_spec (H.rp 2 rfl)) ?_
 rintro _ w13 hE14 rfl
 have H := H.ext hE14
 refine qP 1 (sq 5 7) [(2, .I n), (6, .P b1 0), (9, .slice a4 (enc xs k n).length c5), (10, .I 0), (11, .slice a9 ((headsOf (⟨7, 0, 2⟩) xs.length k (enc xs k n)).length) c10), (12, .I 0), (36, .agg #[.string (⟨#[97]⟩), .int .u64 7, .I ((xs.length : Nat) : Int), .int .u32 (((crcF xs).toNat : Nat) : Int), .I 0, .int .u64 2, .slice none 0 0])] ?_
 refine qB .seq 13 (sq 6 7) #[.string (⟨#[]⟩), .int .u64 0, .I 0, .int .u32 0, .I 0, .int .u64 0, .slice none 0 0] 102 H ?_
 intro b15 w16 H
 refine qW 102 b15 0 (sq 7 7) (.agg #[.string (⟨#[97]⟩), .int .u64 7, .I ((xs.length : Nat) : Int), .int .u32 (((crcF xs).toNat : Nat) : Int), .I 0, .int .u64 2, .slice none 0 0]) [(b15, .cells #[.string (⟨#[97]⟩), .int .u64 7, .I ((xs.length : Nat) : Int), .int .u32 (((crcF xs).toNat : Nat) : Int), .I 0, .int .u64 2, .slice none 0 0] 102 (0, 0)), (b1, .cells #[.string (⟨#[]⟩), .int .u64 0, .I 0, .int .u32 0, .I 0, .int .u64 0, .slice none 0 0] 102 (0, 0))] H 0 rfl rfl ?_
 intro w17 H
 refine qF 0 [(2, .I n), (6, .P b1 0), (9, .slice a4 (enc xs k n).length c5), (10, .I 0), (11, .slice a9 ((headsOf (⟨7, 0, 2⟩) xs.length k (enc xs k n)).length) c10), (12, .I 0), (13, .P b15 0)] ?_
 refine qR 2 [.c [4, 0, 0], .c [4, 0, 1], .c [5]] [(2, .I n), (6, .P b1 0), (9, .slice a4 (enc xs k n).length c5), (10, .I 0), (11, .slice a9 ((headsOf (⟨7, 0, 2⟩) xs.length k (enc xs k n)).length) c10), (12, .I 0), (13, .P b15 0)] ?_
 refine qG (sq 0 18) ?_
 refine qP 13 (sq 13 18) [(2, .I n), (6, .P b1 0), (9, .slice a4 (enc xs k n).length c5), (11, .slice a9 ((headsOf (⟨7, 0, 2⟩) xs.length k (enc xs k n)).length) c10), (13, .P b15 0), (49, .bool ((((enc xs k n).length : Nat) : Int) != (n : Int)))] ?_
 refine tN (fun b_ => [(2, .I n), (6, .P b1 0), (9, .slice a4 (enc xs k n).length c5), (11, .slice a9 ((headsOf (⟨7, 0, 2⟩) xs.length k (enc xs k n)).length) c10), (13, .P b15 0), (49, .bool b_)]) (((enc xs k n).length : Nat) : Int) (n : Int) (fun h18 => ?_) (fun h18 => ?_)
 ·
  omega
 ·
  refine qF 5 [(2, .I n), (6, .P b1 0), (9, .slice a4 (enc xs k n).length c5), (11, .slice a9 ((headsOf (⟨7, 0, 2⟩) xs.length k (enc xs k n)).length) c10), (13, .P b15 0), (54, .bool ((((headsOf (⟨7, 0, 2⟩) xs.length k (enc xs k n)).length : Nat) : Int) != (n : Int)))] ?_
  refine qN (((headsOf (⟨7, 0, 2⟩) xs.length k (enc xs k n)).length : Nat) : Int) (n : Int) (fun h19 => ?_) (fun h19 => ?_)
  ·
   omega
  ·
   refine qR 7 [.c [6, 0, 1, 0], .b 0, .c [7]] [(2, .I n), (6, .P b1 0), (9, .slice a4 (enc xs k n).length c5), (11, .slice a9 ((headsOf (⟨7, 0, 2⟩) xs.length k (enc xs k n)).length) c10), (13, .P b15 0), (14, .slice none 0 0), (15, .I 0)] ?_
   have H := (H.ownNil chkS 92).ownNil Si 3
   have H : Hp w S [] [(b15, .cells #[.string (⟨#[97]⟩), .int .u64 7, .I ((xs.length : Nat) : Int), .int .u32 (((crcF xs).toNat : Nat) : Int), .I 0, .int .u64 2, .slice none 0 0] 102 (0, 0)), (b1, .cells #[.string (⟨#[]⟩), .int .u64 0, .I 0, .int .u32 0, .I 0, .int .u64 0, .slice none 0 0] 102 (0, 0))] [⟨Shape.int .i64, 3, .slice none (nodesTo 0).length 0, nodesTo 0⟩, ⟨chkS, 92, .slice none (((chksOf xs k n).take 0).length) 0, (chksOf xs k n).take 0⟩] [Rp (Shape.slice hdrS) [.slice a9 ((headsOf (⟨7, 0, 2⟩) xs.length k (enc xs k n)).length) c10] (headsOf (⟨7, 0, 2⟩) xs.length k (enc xs k n)), Rp (Shape.slice SB) [.slice a4 (enc xs k n).length c5] (enc xs k n), Rp SB [.slice a xs.length c] xs] w17 := H
   have H := H.pick [0, 1] rfl
   have H := H.drop (M' := [(b15, .cells #[.string (⟨#[97]⟩), .int .u64 7, .I ((xs.length : Nat) : Int), .int .u32 (((crcF xs).toNat : Nat) : Int), .I 0, .int .u64 2, .slice none (nodesTo 0).length 0] 102 (0, 0)), (b1, .cells #[.string (⟨#[]⟩), .int .u64 0, .I 0, .int .u32 0, .I 0, .int .u64 0, .slice none 0 0] 102 (0, 0))]) (W' := [⟨Shape.int .i64, 3, .slice none (nodesTo 0).length 0, nodesTo 0⟩, ⟨chkS, 92, .slice none (((chksOf xs k n).take 0).length) 0, (chksOf xs k n).take 0⟩]) (by repeat (first | exact List.Sublist.refl _ | exact List.nil_sublist _ | apply List.Sublist.cons_cons | apply List.Sublist.cons)) (by repeat (first | exact List.Sublist.refl _ | exact List.nil_sublist _ | apply List.Sublist.cons_cons | apply List.Sublist.cons))
   refine WK.loop (α := Nat × Option Addr × Nat × Option Addr × Nat) (b := cd Try.prog 52 [6, 0, 1, 0, 0]) (by as_aux_lemma => kernel_rfl) (fun st_ => match st_ with | (i, ao, co, bo, do_) => [(2, .I n), (6, .P b1 0), (9, .slice a4 (enc xs k n).length c5), (11, .slice a9 ((headsOf (⟨7, 0, 2⟩) xs.length k (enc xs k n)).length) c10), (13, .P b15 0), (14, .slice bo (((chksOf xs k n).take i).length) do_), (15, .I i)]) (fun st_ w' => match st_ with | (i, ao, co, bo, do_) => Hp w S [] [(b15, .cells #[.string (⟨#[97]⟩), .int .u64 7, .I ((xs.length : Nat) : Int), .int .u32 (((crcF xs).toNat : Nat) : Int), .I 0, .int .u64 2, .slice ao (nodesTo i).length co] 102 (0, 0)), (b1, .cells #[.string (⟨#[]⟩), .int .u64 0, .I 0, .int .u32 0, .I 0, .int .u64 0, .slice none 0 0] 102 (0, 0))] [⟨Shape.int .i64, 3, .slice ao (nodesTo i).length co, nodesTo i⟩, ⟨chkS, 92, .slice bo (((chksOf xs k n).take i).length) do_, (chksOf xs k n).take i⟩] [Rp (Shape.slice hdrS) [.slice a9 ((headsOf (⟨7, 0, 2⟩) xs.length k (enc xs k n)).length) c10] (headsOf (⟨7, 0, 2⟩) xs.length k (enc xs k n)), Rp (Shape.slice SB) [.slice a4 (enc xs k n).length c5] (enc xs k n)] w' ∧ i ≤ n) (fun st_ => match st_ with | (i, ao, co, bo, do_) => n - i) (0, none, 0, none, 0) ⟨H, Nat.zero_le _⟩ (rfl) ?_
   rintro ⟨i, ao, co, bo, do_⟩ w21 ⟨H, hinv0⟩ hback20
   refine qR 3 [.c [6, 0, 1, 0, 0, 0, 1], .c [6, 0, 1, 0, 0, 1], .l [6, 0, 1, 0, 0], .b 0, .c [7]] [(2, .I n), (6, .P b1 0), (9, .slice a4 (enc xs k n).length c5), (11, .slice a9 ((headsOf (⟨7, 0, 2⟩) xs.length k (enc xs k n)).length) c10), (13, .P b15 0), (14, .slice bo (((chksOf xs k n).take i).length) do_), (15, .I i), (58, .bool (decide (((i : Int) : Int) < (n : Int))))] ?_
   refine qD (((i : Int) : Int) < (n : Int)) (fun h22 => ?_) (fun h22 => ?_)
   ·
    refine qR 4 [.c [6, 0, 1, 0, 0, 1, 0, 0, 0], .c [6, 0, 1, 0, 0, 1, 0, 0, 1], .b 1, .c [6, 0, 1, 0, 0, 2], .l [6, 0, 1, 0, 0], .b 0, .c [7]] [(2, .I n), (6, .P b1 0), (9, .slice a4 (enc xs k n).length c5), (11, .slice a9 ((headsOf (⟨7, 0, 2⟩) xs.length k (enc xs k n)).length) c10), (13, .P b15 0), (14, .slice bo (((chksOf xs k n).take i).length) do_), (15, .I i)] ?_
    refine qG (sq 0 8) ?_
    refine qP 1 (sq 1 8) [(2, .I n), (6, .P b1 0), (9, .slice a4 (enc xs k n).length c5), (11, .slice a9 ((headsOf (⟨7, 0, 2⟩) xs.length k (enc xs k n)).length) c10), (13, .P b15 0), (14, .slice bo (((chksOf xs k n).take i).length) do_), (15, .I i), (61, .P b15 6)] ?_
    refine qL .seq 62 (sq 2 8) 25 b15 6 6 (.slice ao (nodesTo i).length co) (H.cells 0 rfl) ?_
    refine qP 1 (sq 3 8) [(2, .I n), (6, .P b1 0), (9, .slice a4 (enc xs k n).length c5), (11, .slice a9 ((headsOf (⟨7, 0, 2⟩) xs.length k (enc xs k n)).length) c10), (13, .P b15 0), (14, .slice bo (((chksOf xs k n).take i).length) do_), (15, .I i), (62, .slice ao (nodesTo i).length co), (63, .I i)] ?_
    refine qI .seq 64 (sq 4 8) ((i : Int) + 1) ?_
    refine RW.new (κ := .seq) (d := some 65) (r := (sq 5 8)) (o := .cells #[.I ((i : Int) + 1)] 3 (0, 0)) (v := fun b => .slice (some ⟨b, 0, none⟩) 1 1) (fun b => by as_aux_lemma => kernel_rfl) (nofun) H ?_
    intro b23 w24 H
    have H := H.freeze 0 rfl Si ([(i : Int) + 1] : List Int) 1 (by simp [maxLen]) (by first | exact Nat.le_refl _ | simp) (EsP.cons (c := [.I ((i : Int) + 1)]) i64a EsP.nil)
    have H : Hp w S [] [(b15, .cells #[.string (⟨#[97]⟩), .int .u64 7, .I ((xs.length : Nat) : Int), .int .u32 (((crcF xs).toNat : Nat) : Int), .I 0, .int .u64 2, .slice ao (nodesTo i).length co] 102 (0, 0)), (b1, .cells #[.string (⟨#[]⟩), .int .u64 0, .I 0, .int .u32 0, .I 0, .int .u64 0, .slice none 0 0] 102 (0, 0))] [⟨Shape.int .i64, 3, .slice ao (nodesTo i).length co, nodesTo i⟩, ⟨chkS, 92, .slice bo (((chksOf xs k n).take i).length) do_, (chksOf xs k n).take i⟩] [Rp Li [.slice (some ⟨b23, 0, none⟩) 1 1] ([(i : Int) + 1] : List Int), Rp (Shape.slice hdrS) [.slice a9 ((headsOf (⟨7, 0, 2⟩) xs.length k (enc xs k n)).length) c10] (headsOf (⟨7, 0, 2⟩) xs.length k (enc xs k n)), Rp (Shape.slice SB) [.slice a4 (enc xs k n).length c5] (enc xs k n)] _ := H
    refine RW.appendW (d := some 66) (r := (sq 6 8)) (T := 25) (ty := 25) (e := 3) (m := 1) (by_ := 8) (v := .slice ao (nodesTo i).length co) (a2 := (some ⟨b23, 0, none⟩)) (l2 := 1) (c2 := 1) (zs := nodesTo (i + 1)) (by as_aux_lemma => kernel_rfl) (by as_aux_lemma => kernel_rfl) rfl H 0 rfl 0 rfl (nodesTo_snoc i) (by rw [nodesTo_len]; omega) ?_
    intro a25 c26 w28 H hc27
    have H : Hp w S [] [(b15, .cells #[.string (⟨#[97]⟩), .int .u64 7, .I ((xs.length : Nat) : Int), .int .u32 (((crcF xs).toNat : Nat) : Int), .I 0, .int .u64 2, .slice ao (nodesTo i).length co] 102 (0, 0)), (b1, .cells #[.string (⟨#[]⟩), .int .u64 0, .I 0, .int .u32 0, .I 0, .int .u64 0, .slice none 0 0] 102 (0, 0))] [⟨Shape.int .i64, 3, .slice a25 ((nodesTo (i + 1)).length) c26, nodesTo (i + 1)⟩, ⟨chkS, 92, .slice bo (((chksOf xs k n).take i).length) do_, (chksOf xs k n).take i⟩] [Rp Li [.slice (some ⟨b23, 0, none⟩) 1 1] ([(i : Int) + 1] : List Int), Rp (Shape.slice hdrS) [.slice a9 ((headsOf (⟨7, 0, 2⟩) xs.length k (enc xs k n)).length) c10] (headsOf (⟨7, 0, 2⟩) xs.length k (enc xs k n)), Rp (Shape.slice SB) [.slice a4 (enc xs k n).length c5] (enc xs k n)] _ := H
    refine qP 1 (sq 7 8) [(2, .I n), (6, .P b1 0), (9, .slice a4 (enc xs k n).length c5), (11, .slice a9 ((headsOf (⟨7, 0, 2⟩) xs.length k (enc xs k n)).length) c10), (13, .P b15 0), (14, .slice bo (((chksOf xs k n).take i).length) do_), (15, .I i), (66, .slice a25 ((nodesTo (i + 1)).length) c26), (67, .P b15 6)] ?_
    refine qW 25 b15 6 (sq 8 8) (.slice a25 ((nodesTo (i + 1)).length) c26) [(b15, .cells #[.string (⟨#[97]⟩), .int .u64 7, .I ((xs.length : Nat) : Int), .int .u32 (((crcF xs).toNat : Nat) : Int), .I 0, .int .u64 2, .slice a25 ((nodesTo (i + 1)).length) c26] 102 (0, 0)), (b1, .cells #[.string (⟨#[]⟩), .int .u64 0, .I 0, .int .u32 0, .I 0, .int .u64 0, .slice none 0 0] 102 (0, 0))] H 0 rfl rfl ?_
    intro w29 H
    refine qF 0 [(2, .I n), (6, .P b1 0), (9, .slice a4 (enc xs k n).length c5), (11, .slice a9 ((headsOf (⟨7, 0, 2⟩) xs.length k (enc xs k n)).length) c10), (13, .P b15 0), (14, .slice bo (((chksOf xs k n).take i).length) do_), (15, .I i)] ?_
    refine WK.draw1 11 [(0, .qui), (1, .qui), (2, .qui), (3, .qui), (4, .qui), (5, .qui), (6, .qui), (7, .qui), (8, .qui), (9, .qui), (10, .chn)] [(0, .qui), (1, .qui), (2, .qui), (3, .qui), (4, .qui), (5, .qui), (6, .qui), (7, .qui), (8, .qui), (9, .qui), (10, .chn), (11, .seq), (12, .seq)] Try_mixed (by as_aux_lemma => kernel_rfl) (by as_aux_lemma => kernel_rfl) (by as_aux_lemma => kernel_rfl) ?_
    have H := H.draw
    generalize ({ w29 with drawn := w29.drawn + 1 } : World) = w30 at H ⊢
    refine qP 3 [(3, .qui), (4, .qui), (5, .qui), (6, .qui), (7, .qui), (8, .qui), (9, .qui), (10, .chn), (11, .seq), (12, .seq)] [(2, .I n), (6, .P b1 0), (9, .slice a4 (enc xs k n).length c5), (11, .slice a9 ((headsOf (⟨7, 0, 2⟩) xs.length k (enc xs k n)).length) c10), (13, .P b15 0), (14, .slice bo (((chksOf xs k n).take i).length) do_), (15, .I i), (68, .slice bo (((chksOf xs k n).take i).length) do_), (69, .slice a9 ((headsOf (⟨7, 0, 2⟩) xs.length k (enc xs k n)).length) c10), (70, .I i)] ?_
    have hx31 : i < (headsOf (⟨7, 0, 2⟩) xs.length k (enc xs k n)).length := by omega
    refine qX .qui 71 [(4, .qui), (5, .qui), (6, .qui), (7, .qui), (8, .qui), (9, .qui), (10, .chn), (11, .seq), (12, .seq)] 28 53 (i : Int) hdrS (hdAt xs k n i) H 1 rfl i (by omega) (by rw [List.getElem?_eq_getElem (by omega), headsOf_at hkn (by omega)]) ?_
    intro b32 o33 es34 hr35 H
    obtain ⟨cs0q36, rfl, hf37, hf38, hf39, hf40⟩ := hdr_open hr35
    obtain ⟨rfl, hf42, hf43, hf44⟩ := cid_open hf37
    refine qL .qui 72 [(5, .qui), (6, .qui), (7, .qui), (8, .qui), (9, .qui), (10, .chn), (11, .seq), (12, .seq)] 53 b32 o33 0 (.agg (hdrV (hdAt xs k n i)).toArray) (H.fc 0 rfl) ?_
    refine qP 2 [(7, .qui), (8, .qui), (9, .qui), (10, .chn), (11, .seq), (12, .seq)] [(2, .I n), (6, .P b1 0), (9, .slice a4 (enc xs k n).length c5), (11, .slice a9 ((headsOf (⟨7, 0, 2⟩) xs.length k (enc xs k n)).length) c10), (13, .P b15 0), (14, .slice bo (((chksOf xs k n).take i).length) do_), (15, .I i), (68, .slice bo (((chksOf xs k n).take i).length) do_), (72, .agg (hdrV (hdAt xs k n i)).toArray), (73, .slice a4 (enc xs k n).length c5), (74, .I i)] ?_
    have hx45 : i < (enc xs k n).length := by omega
    refine qX .qui 75 [(8, .qui), (9, .qui), (10, .chn), (11, .seq), (12, .seq)] 29 23 (i : Int) SB (rowAt (enc xs k n) i) H 3 rfl i (by omega) (by rw [List.getElem?_eq_getElem (by omega), rowAt_eq (by omega)]) ?_
    intro b46 o47 es48 hr49 H
    obtain ⟨a50, k51, rfl⟩ := Shape.slice_form' hr49
    have H := H.add (F := Rp SB [.slice a50 ((rowAt (enc xs k n) i).length) k51] (rowAt (enc xs k n) i)) hr49
    refine qL .qui 76 [(9, .qui), (10, .chn), (11, .seq), (12, .seq)] 23 b46 o47 0 (.slice a50 ((rowAt (enc xs k n) i).length) k51) (H.fc 1 rfl) ?_
    refine qP 1 [(10, .chn), (11, .seq), (12, .seq)] [(2, .I n), (6, .P b1 0), (9, .slice a4 (enc xs k n).length c5), (11, .slice a9 ((headsOf (⟨7, 0, 2⟩) xs.length k (enc xs k n)).length) c10), (13, .P b15 0), (14, .slice bo (((chksOf xs k n).take i).length) do_), (15, .I i), (68, .slice bo (((chksOf xs k n).take i).length) do_), (77, .agg #[.int .u64 (((hdAt xs k n i).id).version), .I (((hdAt xs k n i).id).index), .int .u64 (((hdAt xs k n i).id).epoch), .I ((hdAt xs k n i).kk), .I ((hdAt xs k n i).nn), .I ((hdAt xs k n i).size), .int .u32 ((((hdAt xs k n i).sum).toNat : Nat) : Int), .slice a50 ((rowAt (enc xs k n) i).length) k51, .bool false])] ?_
    refine RW.new (κ := .chn) (d := some 78) (r := [(11, .seq), (12, .seq)]) (o := .cells #[.int .u64 (((hdAt xs k n i).id).version), .I (((hdAt xs k n i).id).index), .int .u64 (((hdAt xs k n i).id).epoch), .I ((hdAt xs k n i).kk), .I ((hdAt xs k n i).nn), .I ((hdAt xs k n i).size), .int .u32 ((((hdAt xs k n i).sum).toNat : Nat) : Int), .slice a50 ((rowAt (enc xs k n) i).length) k51, .bool false] 92 (0, 0)) (v := fun b => .slice (some ⟨b, 0, none⟩) 1 1) (fun b => by as_aux_lemma => kernel_rfl) (nofun) H ?_
    intro b52 w53 H
    have H := H.freeze 0 rfl chkS ([⟨⟨((hdAt xs k n i).id), (hdAt xs k n i).kk, (hdAt xs k n i).nn, (hdAt xs k n i).size, (hdAt xs k n i).sum⟩, (rowAt (enc xs k n) i), false⟩] : List Chk) 1 (by simp [maxLen]) (by first | exact Nat.le_refl _ | simp) (EsP.cons (c := [.int .u64 (((hdAt xs k n i).id).version), .I (((hdAt xs k n i).id).index), .int .u64 (((hdAt xs k n i).id).epoch), .I ((hdAt xs k n i).kk), .I ((hdAt xs k n i).nn), .I ((hdAt xs k n i).size), .int .u32 ((((hdAt xs k n i).sum).toNat : Nat) : Int), .slice a50 ((rowAt (enc xs k n) i).length) k51, .bool false]) (chk_mk (hdr_mk (cid_mk u64a i64a u64a) i64a i64a i64a Shape.bv_mk) (H.rp 0 rfl) Shape.bool_mk) EsP.nil)
    have H : Hp w S [] [(b15, .cells #[.string (⟨#[97]⟩), .int .u64 7, .I ((xs.length : Nat) : Int), .int .u32 (((crcF xs).toNat : Nat) : Int), .I 0, .int .u64 2, .slice a25 ((nodesTo (i + 1)).length) c26] 102 (0, 0)), (b1, .cells #[.string (⟨#[]⟩), .int .u64 0, .I 0, .int .u32 0, .I 0, .int .u64 0, .slice none 0 0] 102 (0, 0))] [⟨Shape.int .i64, 3, .slice a25 ((nodesTo (i + 1)).length) c26, nodesTo (i + 1)⟩, ⟨chkS, 92, .slice bo (((chksOf xs k n).take i).length) do_, (chksOf xs k n).take i⟩] [Rp (Shape.slice chkS) [.slice (some ⟨b52, 0, none⟩) 1 1] ([⟨⟨((hdAt xs k n i).id), (hdAt xs k n i).kk, (hdAt xs k n i).nn, (hdAt xs k n i).size, (hdAt xs k n i).sum⟩, (rowAt (enc xs k n) i), false⟩] : List Chk), Rp SB [.slice a50 ((rowAt (enc xs k n) i).length) k51] (rowAt (enc xs k n) i), Fc b46 o47 [.slice a50 ((rowAt (enc xs k n) i).length) k51], Fc b32 o33 (hdrV (hdAt xs k n i)), Rp Li [.slice (some ⟨b23, 0, none⟩) 1 1] ([(i : Int) + 1] : List Int), Rp (Shape.slice hdrS) [.slice a9 ((headsOf (⟨7, 0, 2⟩) xs.length k (enc xs k n)).length) c10] (headsOf (⟨7, 0, 2⟩) xs.length k (enc xs k n)), Rp (Shape.slice SB) [.slice a4 (enc xs k n).length c5] (enc xs k n)] _ := H
    refine RW.appendW (d := some 79) (r := [(12, .seq)]) (T := 103) (ty := 103) (e := 92) (m := 9) (by_ := 88) (v := .slice bo (((chksOf xs k n).take i).length) do_) (a2 := (some ⟨b52, 0, none⟩)) (l2 := 1) (c2 := 1) (zs := (chksOf xs k n).take (i + 1)) (by as_aux_lemma => kernel_rfl) (by as_aux_lemma => kernel_rfl) rfl H 1 rfl 0 rfl (chk_snoc (by omega) rfl) (by rw [List.length_take, chksOf_len]; omega) ?_
    intro a54 c55 w57 H hc56
    have H : Hp w S [] [(b15, .cells #[.string (⟨#[97]⟩), .int .u64 7, .I ((xs.length : Nat) : Int), .int .u32 (((crcF xs).toNat : Nat) : Int), .I 0, .int .u64 2, .slice a25 ((nodesTo (i + 1)).length) c26] 102 (0, 0)), (b1, .cells #[.string (⟨#[]⟩), .int .u64 0, .I 0, .int .u32 0, .I 0, .int .u64 0, .slice none 0 0] 102 (0, 0))] [⟨Shape.int .i64, 3, .slice a25 ((nodesTo (i + 1)).length) c26, nodesTo (i + 1)⟩, ⟨chkS, 92, .slice a54 (((chksOf xs k n).take (i + 1)).length) c55, (chksOf xs k n).take (i + 1)⟩] [Rp (Shape.slice chkS) [.slice (some ⟨b52, 0, none⟩) 1 1] ([⟨⟨((hdAt xs k n i).id), (hdAt xs k n i).kk, (hdAt xs k n i).nn, (hdAt xs k n i).size, (hdAt xs k n i).sum⟩, (rowAt (enc xs k n) i), false⟩] : List Chk), Rp SB [.slice a50 ((rowAt (enc xs k n) i).length) k51] (rowAt (enc xs k n) i), Fc b46 o47 [.slice a50 ((rowAt (enc xs k n) i).length) k51], Fc b32 o33 (hdrV (hdAt xs k n i)), Rp Li [.slice (some ⟨b23, 0, none⟩) 1 1] ([(i : Int) + 1] : List Int), Rp (Shape.slice hdrS) [.slice a9 ((headsOf (⟨7, 0, 2⟩) xs.length k (enc xs k n)).length) c10] (headsOf (⟨7, 0, 2⟩) xs.length k (enc xs k n)), Rp (Shape.slice SB) [.slice a4 (enc xs k n).length c5] (enc xs k n)] _ := H
    refine qF 1 [(2, .I n), (6, .P b1 0), (9, .slice a4 (enc xs k n).length c5), (11, .slice a9 ((headsOf (⟨7, 0, 2⟩) xs.length k (enc xs k n)).length) c10), (13, .P b15 0), (14, .slice a54 (((chksOf xs k n).take (i + 1)).length) c55), (15, .I i)] ?_
    refine qR 1 [.c [6, 0, 1, 0, 0, 2], .l [6, 0, 1, 0, 0], .b 0, .c [7]] [(2, .I n), (6, .P b1 0), (9, .slice a4 (enc xs k n).length c5), (11, .slice a9 ((headsOf (⟨7, 0, 2⟩) xs.length k (enc xs k n)).length) c10), (13, .P b15 0), (14, .slice a54 (((chksOf xs k n).take (i + 1)).length) c55), (15, .I i)] ?_
    refine qG (sq 0 3) ?_
    refine qP 1 (sq 1 3) [(2, .I n), (6, .P b1 0), (9, .slice a4 (enc xs k n).length c5), (11, .slice a9 ((headsOf (⟨7, 0, 2⟩) xs.length k (enc xs k n)).length) c10), (13, .P b15 0), (14, .slice a54 (((chksOf xs k n).take (i + 1)).length) c55), (15, .I i), (59, .I i)] ?_
    refine qI .seq 60 (sq 2 3) ((i : Int) + 1) ?_
    refine qF 1 [(2, .I n), (6, .P b1 0), (9, .slice a4 (enc xs k n).length c5), (11, .slice a9 ((headsOf (⟨7, 0, 2⟩) xs.length k (enc xs k n)).length) c10), (13, .P b15 0), (14, .slice a54 (((chksOf xs k n).take (i + 1)).length) c55), (15, .I ((i : Int) + 1))] ?_
    have H := H.pick [5, 6] rfl
    exact WK.back (hback20 (i + 1, a25, c26, a54, c55) _ ⟨H, by omega⟩ (by first | omega | (simp only []; omega))) (by as_aux_lemma => kernel_rfl)
   ·
    refine qR 2 [.c [7, 0], .c [8]] [(6, .P b1 0), (13, .P b15 0), (14, .slice bo (((chksOf xs k n).take i).length) do_)] ?_
    refine qG (sq 0 5) ?_
    refine qL .seq 80 (sq 1 5) 102 b15 0 0 (.agg #[.string (⟨#[97]⟩), .int .u64 7, .I ((xs.length : Nat) : Int), .int .u32 (((crcF xs).toNat : Nat) : Int), .I 0, .int .u64 2, .slice ao (nodesTo i).length co]) (H.cells 0 rfl) ?_
    refine qP 1 (sq 2 5) [(6, .P b1 0), (80, .agg #[.string (⟨#[97]⟩), .int .u64 7, .I ((xs.length : Nat) : Int), .int .u32 (((crcF xs).toNat : Nat) : Int), .I 0, .int .u64 2, .slice ao (nodesTo i).length co]), (81, .slice bo (((chksOf xs k n).take i).length) do_)] ?_
    refine qW 102 b1 0 (sq 3 5) (.agg #[.string (⟨#[97]⟩), .int .u64 7, .I ((xs.length : Nat) : Int), .int .u32 (((crcF xs).toNat : Nat) : Int), .I 0, .int .u64 2, .slice ao (nodesTo i).length co]) [(b15, .cells #[.string (⟨#[97]⟩), .int .u64 7, .I ((xs.length : Nat) : Int), .int .u32 (((crcF xs).toNat : Nat) : Int), .I 0, .int .u64 2, .slice ao (nodesTo i).length co] 102 (0, 0)), (b1, .cells #[.string (⟨#[97]⟩), .int .u64 7, .I ((xs.length : Nat) : Int), .int .u32 (((crcF xs).toNat : Nat) : Int), .I 0, .int .u64 2, .slice ao (nodesTo i).length co] 102 (0, 0))] H 1 rfl rfl ?_
    intro w58 H
    refine qF 2 [(6, .P b1 0), (7, .slice bo (((chksOf xs k n).take i).length) do_), (8, .bool true)] ?_
    refine qRB (.tuple #[.agg #[.string (⟨#[97]⟩), .int .u64 7, .I ((xs.length : Nat) : Int), .int .u32 (((crcF xs).toNat : Nat) : Int), .I 0, .int .u64 2, .slice ao (nodesTo i).length co], .slice bo (((chksOf xs k n).take i).length) do_, .bool true]) Try.func52 (v3 (.cell 6 102) (.tmp 7) (.tmp 8) (vC (H.cells 1 rfl)) vT vT) ?_
    have H : Hp w S [] [(b15, .cells #[.string (⟨#[97]⟩), .int .u64 7, .I ((xs.length : Nat) : Int), .int .u32 (((crcF xs).toNat : Nat) : Int), .I 0, .int .u64 2, .slice ao (nodesTo i).length co] 102 (0, 0)), (b1, .cells #[.string (⟨#[97]⟩), .int .u64 7, .I ((xs.length : Nat) : Int), .int .u32 (((crcF xs).toNat : Nat) : Int), .I 0, .int .u64 2, .slice ao (nodesTo i).length co] 102 (0, 0))] [⟨chkS, 92, .slice bo (((chksOf xs k n).take i).length) do_, (chksOf xs k n).take i⟩] [Rp Li [.slice ao (nodesTo i).length co] (nodesTo i), Rp (Shape.slice hdrS) [.slice a9 ((headsOf (⟨7, 0, 2⟩) xs.length k (enc xs k n)).length) c10] (headsOf (⟨7, 0, 2⟩) xs.length k (enc xs k n)), Rp (Shape.slice SB) [.slice a4 (enc xs k n).length c5] (enc xs k n)] _ := H.freezeW 0 rfl
    have H : Hp w S [] [(b15, .cells #[.string (⟨#[97]⟩), .int .u64 7, .I ((xs.length : Nat) : Int), .int .u32 (((crcF xs).toNat : Nat) : Int), .I 0, .int .u64 2, .slice ao (nodesTo i).length co] 102 (0, 0)), (b1, .cells #[.string (⟨#[97]⟩), .int .u64 7, .I ((xs.length : Nat) : Int), .int .u32 (((crcF xs).toNat : Nat) : Int), .I 0, .int .u64 2, .slice ao (nodesTo i).length co] 102 (0, 0))] [] [Rp (Shape.slice chkS) [.slice bo (((chksOf xs k n).take i).length) do_] ((chksOf xs k n).take i), Rp Li [.slice ao (nodesTo i).length co] (nodesTo i), Rp (Shape.slice hdrS) [.slice a9 ((headsOf (⟨7, 0, 2⟩) xs.length k (enc xs k n)).length) c10] (headsOf (⟨7, 0, 2⟩) xs.length k (enc xs k n)), Rp (Shape.slice SB) [.slice a4 (enc xs k n).length c5] (enc xs k n)] _ := H.freezeW 0 rfl
    have hie : i = n := by omega
    subst hie
    have hte : (chksOf xs k i).take i = chksOf xs k i := List.take_of_length_le (by rw [chksOf_len]; exact Nat.le_refl _)
    rw [hte] at H ⊢
    exact ⟨_, rfl, H.done, [.string (⟨#[97]⟩), .int .u64 7, .I ((xs.length : Nat) : Int), .int .u32 (((crcF xs).toNat : Nat) : Int), .I 0, .int .u64 2, .slice ao (nodesTo i).length co], _, _, rfl, H.out (obj_mk (y0 := ⟨#[97]⟩) (y1 := 7) (y2 := ((xs.length : Nat) : Int)) (y3 := crcF xs) (y4 := 0) (y5 := 2) (y6 := nodesTo i) ⟨rfl, by first | assumption | (simp [maxLen]; done) | decide⟩ (Shape.int_mk (by decide)) i64a Shape.bv_mk (Shape.int_mk (by decide)) (Shape.int_mk (by decide)) (H.rp 1 rfl)), H.out (H.rp 0 rfl)⟩
structure Bv (xs : List (BitVec 8)) (k n : Nat) (O : ObjD) (f : Nat → Nat) (r : Rd) (x : Nat) : Prop where
 of : RdOf xs k n r
 ob : r.object = O
 ps : r.pieces = []
 bad : r.bad = (List.range x).map fun j => ((f j : Nat) : Int)
 ll : leftTo r.bad n + x = n
 dn : r.done = if n < k + x then 2 else 0
theorem Bv.len {xs : List (BitVec 8)} {k n : Nat} {O : ObjD} {f : Nat → Nat} {r : Rd} {x : Nat} (h : Bv xs k n O f r x) : r.bad.length = x := by
 rw [h.bad]
 simp
theorem Bv.step {xs : List (BitVec 8)} {k n : Nat} {O : ObjD} {f : Nat → Nat} {r : Rd} {x : Nat} (h : Bv xs k n O f r x) (hx : k + x ≤ n) (hf : f x < n) (hne : ∀ j < x, f j ≠ f x) {frm : Int} {hd : Hdr} {dt : List (BitVec 8)} (hh : hitR r frm hd (f x) = true) : Bv xs k n O f (gotR r frm hd dt false) (x + 1) := by
 have hk := h.of.hk
 have hnb : ¬ ((f x : Nat) : Int) ∈ r.bad := by
  rw [h.bad]
  intro hm
  obtain ⟨j, hj, e⟩ := List.mem_map.1 hm
  exact hne j (List.mem_range.1 hj) (Int.ofNat.inj e)
 have ho : openR r ((f x : Nat) : Int) = true := openR_iff.2 ⟨hnb, by rw [h.ps]; simp⟩
 have hg : ¬ goodR r (f x) hd dt false := fun q => absurd q.1 (by decide)
 rw [gotR_at (waits_of h.of (by rw [h.dn, if_neg (by omega)])) hh, if_pos ho]
 unfold stepR
 rw [if_neg hg]
 have hla : leftTo (r.bad ++ [((f x : Nat) : Int)]) n + 1 = leftTo r.bad n := by
  have := leftTo_add hnb n
  rwa [if_pos hf] at this
 have hll := h.ll
 refine ⟨{ h.of with }, h.ob, h.ps, ?_, ?_, ?_⟩
 · show r.bad ++ [_] = _
   rw [h.bad, List.range_succ, List.map_append]; rfl
 · show leftTo (r.bad ++ [((f x : Nat) : Int)]) n + (x + 1) = n
   omega
 · show judgeR (badR r (f x)) = _
   unfold judgeR
   have e1 : ((badR r (f x)).pieces.length : Int) = 0 := by
    show ((r.pieces).length : Int) = _
    rw [h.ps]; rfl
   have e2 : leftTo (badR r (f x)).bad (badR r (f x)).nn.toNat = leftTo (r.bad ++ [((f x : Nat) : Int)]) n := by
    show leftTo (r.bad ++ [((f x : Nat) : Int)]) r.nn.toNat = _
    rw [h.of.nn]; rfl
   have e3 : (badR r (f x)).kk = (k : Int) := h.of.kk
   rw [e1, e2, e3, if_neg (by omega)]
   by_cases hl2 : n < k + (x + 1)
   · rw [if_pos (by omega), if_pos hl2]
   · rw [if_neg (by omega), if_neg hl2]
theorem Bv.begin {xs : List (BitVec 8)} {k n : Nat} {limit : Int} (f : Nat → Nat) (hk : 1 ≤ k) (hkn : k ≤ n) (hn : n ≤ 255) (hs : xs.length ≤ 65536) : Bv xs k n (objOf xs n) f (beginR (objOf xs n) (k : Int) (n : Int) limit) 0 :=
 ⟨RdOf.begin hk hkn hn hs, rfl, rfl, rfl, leftTo_none n, by rw [if_neg (by omega)]; rfl⟩
def tAt (s0 n x : Nat) : Nat := (s0 + x) % n
theorem tAt_lt {s0 n x : Nat} (hn : 0 < n) : tAt s0 n x < n := Nat.mod_lt _ hn
theorem mod_two {a n : Nat} (h : a < 2 * n) : a % n = if a < n then a else a - n := by
 by_cases h1 : a < n
 · rw [if_pos h1, Nat.mod_eq_of_lt h1]
 · rw [if_neg h1, Nat.mod_eq_sub_mod (by omega), Nat.mod_eq_of_lt (by omega)]
theorem tAt_ne {s0 n x : Nat} (h0 : s0 < n) (hx : x < n) : ∀ j < x, tAt s0 n j ≠ tAt s0 n x := by
 intro j hj
 unfold tAt
 rw [mod_two (by omega), mod_two (by omega)]
 split <;> split <;> omega
structure Fv (xs : List (BitVec 8)) (k n : Nat) (f : Nat → Nat) (s : Shf) (x : Nat) : Prop where
 rd : Bv xs k n (objOf xs n) f s.read x
 rb : rdB s.read
 dn : s.done = s.read.done
 ry : s.ready = false
 to : s.to.length = n
 ep : s.epoch = 3
 wr : s.write = wrZero
theorem Fv.step {xs : List (BitVec 8)} {k n : Nat} {f : Nat → Nat} {s s2 : Shf} {x z : Nat} (h : Fv xs k n f s x) (hx : k + x ≤ n) (hf : f x < n) (hne : ∀ j < x, f j ≠ f x) (hz : z = f x) {hd : Hdr} {dt : List (BitVec 8)} (hhd : hd.id = (hdAt xs k n z).id) (e : s2 = mstepR s ((z : Int) + 1) hd dt false) : Fv xs k n f s2 (x + 1) := by
 subst hz e
 have hb := h.rd.step (dt := dt) hx hf hne (hit_own h.rd.ob hf hhd)
 refine ⟨hb, rdB_got h.rb, ?_, h.ry, h.to, h.ep, h.wr⟩
 show (if (gotR s.read _ hd dt false).done = 2 then (gotR s.read _ hd dt false).done else s.done) = (gotR s.read _ hd dt false).done
 rw [hb.dn, h.dn, h.rd.dn, if_neg (show ¬ n < k + x by omega)]
 by_cases h2 : n < k + (x + 1)
 · rw [if_pos h2]; rfl
 · rw [if_neg h2]; rfl
theorem Fv.begin {xs : List (BitVec 8)} {k n : Nat} {to : List Int} (f : Nat → Nat) (hk : 1 ≤ k) (hkn : k ≤ n) (hn : n ≤ 255) (hs : xs.length ≤ 65536) (hto : to.length = n) : Fv xs k n f (mbegR (objOf xs n) (k : Int) (n : Int) to 3 100) 0 :=
 ⟨Bv.begin f hk hkn hn hs, rdB_begin hk hkn hn hs, rfl, rfl, hto, rfl, rfl⟩
theorem Fv.d0 {xs : List (BitVec 8)} {k n : Nat} {f : Nat → Nat} {s : Shf} {x : Nat} (h : Fv xs k n f s x) (hx : k + x ≤ n) : s.done = 0 := by
 rw [h.dn, h.rd.dn, if_neg (by omega)]
theorem Fv.dl {xs : List (BitVec 8)} {k n : Nat} {f : Nat → Nat} {s : Shf} {x : Nat} (h : Fv xs k n f s x) : s.done = if n < k + x then 2 else 0 := h.dn.trans h.rd.dn
def wrB (W : Wr) : Prop := W.key.size ≤ maxLen ∧ (0 ≤ W.client ∧ W.client ≤ 18446744073709551615) ∧ (0 ≤ W.seq ∧ W.seq ≤ 18446744073709551615) ∧ (-9223372036854775808 ≤ W.waited ∧ W.waited ≤ 9223372036854775807) ∧ (-9223372036854775808 ≤ W.limit ∧ W.limit ≤ 9223372036854775807) ∧ (-9223372036854775808 ≤ W.done ∧ W.done ≤ 9223372036854775807)
def shB (s : Shf) : Prop := rdB s.read ∧ (0 ≤ s.epoch ∧ s.epoch ≤ 18446744073709551615) ∧ wrB s.write ∧ (-9223372036854775808 ≤ s.done ∧ s.done ≤ 9223372036854775807)
def mwriteR (s : Shf) (frm : Int) (hd : Hdr) (ok : Bool) : Shf := { s with write := (gotOf s.write 10 frm hd ok).1, done := (gotOf s.write 10 frm hd ok).2 }
theorem mwriteR_eq {s : Shf} {frm : Int} {hd : Hdr} {ok : Bool} {W : Wr} {e : Int} (h : (W, e) = gotOf s.write 10 frm hd ok) : ({ s with write := W, done := e } : Shf) = mwriteR s frm hd ok := by
 unfold mwriteR
 rw [← h]
theorem addShf {w0 w w' : World} {S : Nat → Prop} {O : List Nat} {M : Heap} {W : List OwnS} {G : List Fact} {s : Shf} {cs : List Value} (H : Hp w0 S O M W G w) (hE : Ext w w') (h : shfS.rep (Nw (Av S w0 O (idsOf M W)) w) w' cs s) :
 ∃ (a006o : Option Addr) (k006o : Nat) (a03o : Option Addr) (k03o : Nat) (a04o : Option Addr) (k04o : Nat) (a1o : Option Addr) (k1o : Nat) (a33o : Option Addr) (k33o : Nat) (a34o : Option Addr) (k34o : Nat) (a35o : Option Addr) (k35o : Nat) (a36o : Option Addr) (k36o : Nat), cs = shfV s a006o k006o a03o k03o a04o k04o a1o k1o a33o k33o a34o k34o a35o k35o a36o k36o ∧ shB s ∧ Hp w0 S O M W ([Rp Li [.slice a006o s.read.object.nodes.length k006o] s.read.object.nodes, Rp (Shape.slice pcS) [.slice a03o s.read.pieces.length k03o] s.read.pieces, Rp Li [.slice a04o s.read.bad.length k04o] s.read.bad, Rp Li [.slice a1o s.to.length k1o] s.to, Rp (Shape.slice hdrS) [.slice a33o s.write.heads.length k33o] s.write.heads, Rp (Shape.slice SB) [.slice a34o s.write.chunks.length k34o] s.write.chunks, Rp Li [.slice a35o s.write.nodes.length k35o] s.write.nodes, Rp Li [.slice a36o s.write.acks.length k36o] s.write.acks] ++ G) w' := by
 obtain ⟨cs0s, a1s, k1s, cs3s, rfl, h0s, h1s, h2s, h3s, h5s⟩ := shf_open h
 obtain ⟨cs0sread, a3sR, k3sR, a4sR, k4sR, rfl, h0sR, h1sR, h2sR, h3sR, h4sR, h5sR, h6sR, h7sR⟩ := rd_open h0s
 obtain ⟨a6sO, k6sO, rfl, h0sO, h1sO, h2sO, h4sO, h5sO, h6sO⟩ := obj_open h0sR
 obtain ⟨a3sW, k3sW, a4sW, k4sW, a5sW, k5sW, a6sW, k6sW, rfl, h0sW, h1sW, h2sW, h3sW, h4sW, h5sW, h6sW, h7sW, h8sW, h9sW⟩ := wr_open h3s
 exact ⟨_, _, _, _, _, _, _, _, _, _, _, _, _, _, _, _, rfl, by unfold shB wrB rdB; omega, ((((((((H.addN hE (F := Rp Li [.slice a6sW s.write.acks.length k6sW] s.write.acks) h6sW).add (F := Rp Li [.slice a5sW s.write.nodes.length k5sW] s.write.nodes) ((H.addN hE (F := Rp Li [.slice a5sW s.write.nodes.length k5sW] s.write.nodes) h5sW).rp 0 rfl)).add (F := Rp (Shape.slice SB) [.slice a4sW s.write.chunks.length k4sW] s.write.chunks) ((H.addN hE (F := Rp (Shape.slice SB) [.slice a4sW s.write.chunks.length k4sW] s.write.chunks) h4sW).rp 0 rfl)).add (F := Rp (Shape.slice hdrS) [.slice a3sW s.write.heads.length k3sW] s.write.heads) ((H.addN hE (F := Rp (Shape.slice hdrS) [.slice a3sW s.write.heads.length k3sW] s.write.heads) h3sW).rp 0 rfl)).add (F := Rp Li [.slice a1s s.to.length k1s] s.to) ((H.addN hE (F := Rp Li [.slice a1s s.to.length k1s] s.to) h1s).rp 0 rfl)).add (F := Rp Li [.slice a4sR s.read.bad.length k4sR] s.read.bad) ((H.addN hE (F := Rp Li [.slice a4sR s.read.bad.length k4sR] s.read.bad) h4sR).rp 0 rfl)).add (F := Rp (Shape.slice pcS) [.slice a3sR s.read.pieces.length k3sR] s.read.pieces) ((H.addN hE (F := Rp (Shape.slice pcS) [.slice a3sR s.read.pieces.length k3sR] s.read.pieces) h3sR).rp 0 rfl)).add (F := Rp Li [.slice a6sO s.read.object.nodes.length k6sO] s.read.object.nodes) ((H.addN hE (F := Rp Li [.slice a6sO s.read.object.nodes.length k6sO] s.read.object.nodes) h6sO).rp 0 rfl))⟩
def h22s : Shf := mbegR (objOf [1#8, 2#8, 3#8] 1) 1 1 [2] 3 10
def h22t : Shf := mgotR h22s 1 (chkAt [1#8, 2#8, 3#8] 1 1 0).head (chkAt [1#8, 2#8, 3#8] 1 1 0).data true [1#8, 2#8, 3#8] 1 1
def h22L : List Msg := mgotL h22s 1 (chkAt [1#8, 2#8, 3#8] 1 1 0).head (chkAt [1#8, 2#8, 3#8] 1 1 0).data true [1#8, 2#8, 3#8] 1 1
def h22m : Msg := h22L.getD 0 (askOf h22s.read 0)
theorem h22_okB : okB (objOf [1#8, 2#8, 3#8] 1) 1 1 10 := by unfold okB; decide +kernel
theorem h22_of : RdOf [1#8, 2#8, 3#8] 1 1 h22s.read := RdOf.begin (k := 1) (n := 1) (by decide) (by decide) (by decide) (by decide)
theorem h22_len : (asksR (beginR (objOf [1#8, 2#8, 3#8] 1) 1 1 10)).length = 1 := by kernel_rfl
theorem h22_ask : (asksR (beginR (objOf [1#8, 2#8, 3#8] 1) 1 1 10))[0]? = some (askOf h22s.read 0) := by exact rfl
theorem h22_d : h22t.done = 0 := by decide +kernel
theorem h22_ml : h22L.length = 1 := by kernel_rfl
theorem h22_m : h22L[0]? = some h22m := by
 unfold h22m
 rw [List.getD_eq_getElem?_getD, List.getElem?_eq_getElem (show 0 < h22L.length by rw [h22_ml]; decide)]
 rfl
theorem h22_to : h22m.to = 2 := by decide +kernel
theorem h22_ep : h22m.head.id.epoch = 3 := by decide +kernel
theorem h22_hl : h22t.write.heads.length ≤ 1000000 := by decide +kernel
theorem h22_e : (gotOf h22t.write 10 2 h22m.head true).2 = 1 := by decide +kernel
set_option maxHeartbeats 4000000 in
theorem heads22_spec {S : Nat → Prop} {w : World}  :
 Calls Try.prog 51 #[] w (Ret fun v w' => Ext w w' ∧ v = .bool true) := by
 refine qS (fn := Try.f51) (n := 95) (σ := []) Try.func51 ?_
 have H := Hp.startF (w := w) (S := S) (G := []) .nil
 refine qR 3 [.c [1, 0], .c [2]] [] ?_
 refine qG (sq 0 10) ?_
 refine RW.new (κ := .seq) (d := some 14) (r := (sq 1 10)) (o := .cells #[.int .u8 1, .int .u8 2, .int .u8 3] 5 (0, 0)) (v := fun b => .slice (some ⟨b, 0, none⟩) 3 3) (fun b => by as_aux_lemma => kernel_rfl) (nofun) H ?_
 intro b1 w2 H
 have H := H.freeze 0 rfl Sb ([1#8, 2#8, 3#8] : List (BitVec 8)) 3 (by simp [maxLen]) (by first | exact Nat.le_refl _ | simp) (EsP.cons (c := [.int .u8 1]) (Shape.bv_lit (x := 1#8) (by decide)) (EsP.cons (c := [.int .u8 2]) (Shape.bv_lit (x := 2#8) (by decide)) (EsP.cons (c := [.int .u8 3]) (Shape.bv_lit (x := 3#8) (by decide)) EsP.nil)))
 have H : Hp w S [] [] [] [Rp SB [.slice (some ⟨b1, 0, none⟩) 3 3] ([1#8, 2#8, 3#8] : List (BitVec 8))] _ := H
 refine qK .seq (some 15) (sq 2 10) 52 #[.slice (some ⟨b1, 0, none⟩) 3 3, .I 1, .I 1] (object22_ok (S := Av S w [] (idsOf [] [])) (xs := ([1#8, 2#8, 3#8] : List (BitVec 8))) (H.rp 0 rfl) (k := 1) (n := 1) (by decide) (by decide) (by decide) (by decide)) ?_
 rintro _ w3 hE7 ⟨cs4, a5, c6, rfl, hr8, hr9⟩
 have H0s := H
 obtain ⟨a6q10, k6q10, rfl, hf11, hf12, hf13, hf14, hf15, hf16⟩ := obj_open hr8
 have H := H.addN hE7 (F := Rp (Shape.slice chkS) [.slice a5 ((chksOf ([1#8, 2#8, 3#8] : List (BitVec 8)) 1 1).length) c6] (chksOf ([1#8, 2#8, 3#8] : List (BitVec 8)) 1 1)) hr9
 have H := H.add (F := Rp Li [.slice a6q10 ((objOf ([1#8, 2#8, 3#8] : List (BitVec 8)) 1).nodes.length) k6q10] ((objOf ([1#8, 2#8, 3#8] : List (BitVec 8)) 1).nodes)) ((H0s.addN hE7 (F := Rp Li [.slice a6q10 ((objOf ([1#8, 2#8, 3#8] : List (BitVec 8)) 1).nodes.length) k6q10] ((objOf ([1#8, 2#8, 3#8] : List (BitVec 8)) 1).nodes)) hf16).rp 0 rfl)
 refine qP 4 (sq 6 10) [(16, .agg (objV (objOf ([1#8, 2#8, 3#8] : List (BitVec 8)) 1) a6q10 k6q10).toArray), (17, .slice a5 ((chksOf ([1#8, 2#8, 3#8] : List (BitVec 8)) 1 1).length) c6), (18, .bool true)] ?_
 refine qB .seq 1 (sq 7 10) #[.string (⟨#[]⟩), .int .u64 0, .I 0, .int .u32 0, .I 0, .int .u64 0, .slice none 0 0] 102 H ?_
 intro b17 w18 H
 refine qW 102 b17 0 (sq 8 10) (.agg (objV (objOf ([1#8, 2#8, 3#8] : List (BitVec 8)) 1) a6q10 k6q10).toArray) [(b17, .cells (objV (objOf ([1#8, 2#8, 3#8] : List (BitVec 8)) 1) a6q10 k6q10).toArray 102 (0, 0))] H 0 rfl rfl ?_
 intro w19 H
 refine qF 2 [(1, .P b17 0), (2, .slice a5 ((chksOf ([1#8, 2#8, 3#8] : List (BitVec 8)) 1 1).length) c6), (3, .bool true)] ?_
 refine qR 1 [.c [2, 0], .c [3]] [(1, .P b17 0), (2, .slice a5 ((chksOf ([1#8, 2#8, 3#8] : List (BitVec 8)) 1 1).length) c6), (3, .bool true)] ?_
 refine qG (sq 0 11) ?_
 refine qL .seq 20 (sq 1 11) 102 b17 0 0 (.agg (objV (objOf ([1#8, 2#8, 3#8] : List (BitVec 8)) 1) a6q10 k6q10).toArray) (H.cells 0 rfl) ?_
 refine RW.new (κ := .seq) (d := some 21) (r := (sq 2 11)) (o := .cells #[.I 2] 3 (0, 0)) (v := fun b => .slice (some ⟨b, 0, none⟩) 1 1) (fun b => by as_aux_lemma => kernel_rfl) (nofun) H ?_
 intro b20 w21 H
 have H := H.freeze 0 rfl Si ([2] : List Int) 1 (by simp [maxLen]) (by first | exact Nat.le_refl _ | simp) (EsP.cons (c := [.I 2]) (Shape.int_mk (by decide)) EsP.nil)
 have H : Hp w S [] [(b17, .cells (objV (objOf ([1#8, 2#8, 3#8] : List (BitVec 8)) 1) a6q10 k6q10).toArray 102 (0, 0))] [] [Rp Li [.slice (some ⟨b20, 0, none⟩) 1 1] ([2] : List Int), Rp Li [.slice a6q10 ((objOf ([1#8, 2#8, 3#8] : List (BitVec 8)) 1).nodes.length) k6q10] ((objOf ([1#8, 2#8, 3#8] : List (BitVec 8)) 1).nodes), Rp (Shape.slice chkS) [.slice a5 ((chksOf ([1#8, 2#8, 3#8] : List (BitVec 8)) 1 1).length) c6] (chksOf ([1#8, 2#8, 3#8] : List (BitVec 8)) 1 1), Rp SB [.slice (some ⟨b1, 0, none⟩) 3 3] ([1#8, 2#8, 3#8] : List (BitVec 8))] _ := H
 refine qK .seq (some 22) (sq 3 11) 53 #[.agg (objV (objOf ([1#8, 2#8, 3#8] : List (BitVec 8)) 1) a6q10 k6q10).toArray, .I 1, .I 1, .slice (some ⟨b20, 0, none⟩) 1 1, .int .u64 3, .I 10] (mbegin_ok (O := (objOf ([1#8, 2#8, 3#8] : List (BitVec 8)) 1)) (obj_mk (y0 := (objOf ([1#8, 2#8, 3#8] : List (BitVec 8)) 1).key) (y1 := (objOf ([1#8, 2#8, 3#8] : List (BitVec 8)) 1).version) (y2 := (objOf ([1#8, 2#8, 3#8] : List (BitVec 8)) 1).size) (y3 := (objOf ([1#8, 2#8, 3#8] : List (BitVec 8)) 1).sum) (y4 := (objOf ([1#8, 2#8, 3#8] : List (BitVec 8)) 1).group) (y5 := (objOf ([1#8, 2#8, 3#8] : List (BitVec 8)) 1).epoch) (y6 := (objOf ([1#8, 2#8, 3#8] : List (BitVec 8)) 1).nodes) ⟨rfl, by first | assumption | (simp [maxLen]; done) | decide⟩ u64a i64a Shape.bv_mk i64a u64a (H.rp 1 rfl)) 1 1 3 10 (to := ([2] : List Int)) (H.rp 0 rfl) (by omega) (h22_okB) (rfl)) ?_
 rintro _ w22 hE26 ⟨cs23, a24, c25, rfl, hr27, hr28⟩
 have H0s := H
 obtain ⟨s29, hs30⟩ : ∃ s_ : Shf, s_ = mbegR (objOf ([1#8, 2#8, 3#8] : List (BitVec 8)) 1) 1 1 ([2] : List Int) 3 10 := ⟨_, rfl⟩
 rw [← hs30] at hr27
 obtain ⟨a006o31, k006o31, a03o31, k03o31, a04o31, k04o31, a1o31, k1o31, a33o31, k33o31, a34o31, k34o31, a35o31, k35o31, a36o31, k36o31, rfl, hBo31, H⟩ := addShf H hE26 hr27
 unfold shB wrB rdB at hBo31
 have hso31 := hBo31.1.1
 have hso31w := hBo31.2.2.1.1
 have H := H.add (F := Rp (Shape.slice msgS) [.slice a24 ((asksR (beginR (objOf ([1#8, 2#8, 3#8] : List (BitVec 8)) 1) 1 1 10)).length) c25] (asksR (beginR (objOf ([1#8, 2#8, 3#8] : List (BitVec 8)) 1) 1 1 10))) ((H0s.addN hE26 (F := Rp (Shape.slice msgS) [.slice a24 ((asksR (beginR (objOf ([1#8, 2#8, 3#8] : List (BitVec 8)) 1) 1 1 10)).length) c25] (asksR (beginR (objOf ([1#8, 2#8, 3#8] : List (BitVec 8)) 1) 1 1 10))) hr28).rp 0 rfl)
 refine qP 4 (sq 7 11) [(2, .slice a5 ((chksOf ([1#8, 2#8, 3#8] : List (BitVec 8)) 1 1).length) c6), (3, .bool true), (23, .agg (shfV s29 a006o31 k006o31 a03o31 k03o31 a04o31 k04o31 a1o31 k1o31 a33o31 k33o31 a34o31 k34o31 a35o31 k35o31 a36o31 k36o31).toArray), (24, .slice a24 ((asksR (beginR (objOf ([1#8, 2#8, 3#8] : List (BitVec 8)) 1) 1 1 10)).length) c25), (25, .I 0)] ?_
 refine qB .seq 4 (sq 8 11) ((shfZ).toArray) 118 H ?_
 intro b32 w33 H
 refine qW 118 b32 0 (sq 9 11) (.agg (shfV s29 a006o31 k006o31 a03o31 k03o31 a04o31 k04o31 a1o31 k1o31 a33o31 k33o31 a34o31 k34o31 a35o31 k35o31 a36o31 k36o31).toArray) [(b32, .cells (shfV s29 a006o31 k006o31 a03o31 k03o31 a04o31 k04o31 a1o31 k1o31 a33o31 k33o31 a34o31 k34o31 a35o31 k35o31 a36o31 k36o31).toArray 118 (0, 0)), (b17, .cells (objV (objOf ([1#8, 2#8, 3#8] : List (BitVec 8)) 1) a6q10 k6q10).toArray 102 (0, 0))] H 0 rfl rfl ?_
 intro w34 H
 refine qF 2 [(2, .slice a5 ((chksOf ([1#8, 2#8, 3#8] : List (BitVec 8)) 1 1).length) c6), (3, .bool true), (4, .P b32 0), (5, .slice a24 ((asksR (beginR (objOf ([1#8, 2#8, 3#8] : List (BitVec 8)) 1) 1 1 10)).length) c25), (6, .I 0)] ?_
 refine qR 2 [.c [3, 0, 0], .c [3, 0, 1], .c [4]] [(2, .slice a5 ((chksOf ([1#8, 2#8, 3#8] : List (BitVec 8)) 1 1).length) c6), (3, .bool true), (4, .P b32 0), (5, .slice a24 ((asksR (beginR (objOf ([1#8, 2#8, 3#8] : List (BitVec 8)) 1) 1 1 10)).length) c25), (6, .I 0)] ?_
 refine qG (sq 0 18) ?_
 refine qP 12 (sq 12 18) [(2, .slice a5 ((chksOf ([1#8, 2#8, 3#8] : List (BitVec 8)) 1 1).length) c6), (4, .P b32 0), (5, .slice a24 ((asksR (beginR (objOf ([1#8, 2#8, 3#8] : List (BitVec 8)) 1) 1 1 10)).length) c25), (37, .bool ((((asksR (beginR (objOf ([1#8, 2#8, 3#8] : List (BitVec 8)) 1) 1 1 10)).length : Nat) : Int) != 1))] ?_
 refine tN (fun b_ => [(2, .slice a5 ((chksOf ([1#8, 2#8, 3#8] : List (BitVec 8)) 1 1).length) c6), (4, .P b32 0), (5, .slice a24 ((asksR (beginR (objOf ([1#8, 2#8, 3#8] : List (BitVec 8)) 1) 1 1 10)).length) c25), (37, .bool b_)]) (((asksR (beginR (objOf ([1#8, 2#8, 3#8] : List (BitVec 8)) 1) 1 1 10)).length : Nat) : Int) 1 (fun h35 => ?_) (fun h35 => ?_)
 ·
  exact absurd (congrArg (fun q : Nat => (q : Int)) h22_len) h35
 ·
  refine qP 1 (sq 13 18) [(2, .slice a5 ((chksOf ([1#8, 2#8, 3#8] : List (BitVec 8)) 1 1).length) c6), (4, .P b32 0), (37, .bool false), (38, .slice a24 ((asksR (beginR (objOf ([1#8, 2#8, 3#8] : List (BitVec 8)) 1) 1 1 10)).length) c25)] ?_
  have hx36 : 0 < (asksR (beginR (objOf ([1#8, 2#8, 3#8] : List (BitVec 8)) 1) 1 1 10)).length := by rw [h22_len]; decide
  refine qX .seq 39 (sq 14 18) 33 57 0 msgS (askOf h22s.read 0) H 0 rfl 0 (by omega) (h22_ask) ?_
  intro b37 o38 es39 hr40 H
  obtain ⟨a10q41, k10q41, cs11q41, cs12q41, a13q41, k13q41, a19q41, k19q41, rfl, hf42, hf43, hf44, hf45, hf46, hf47, hf48, hf49, hf50, hf51, hf52, hf53, hf54, hf55, hf56, hf57, hf58, hf59⟩ := msg_open hr40
  obtain ⟨a0q60, k0q60, a1q60, k1q60, rfl, hf61, hf62⟩ := conf_open hf51
  obtain ⟨cs0q63, rfl, hf64, hf65, hf66, hf67⟩ := hdr_open hf52
  obtain ⟨rfl, hf69, hf70, hf71⟩ := cid_open hf64
  have H := H.add (F := Rp (Shape.slice entS) [.slice a10q41 ((askOf h22s.read 0).entries.length) k10q41] ((askOf h22s.read 0).entries)) hf50
  have H := H.add (F := Rp Li [.slice a0q60 (((askOf h22s.read 0).conf).voters.length) k0q60] (((askOf h22s.read 0).conf).voters)) hf61
  have H := H.add (F := Rp Li [.slice a1q60 (((askOf h22s.read 0).conf).learners.length) k1q60] (((askOf h22s.read 0).conf).learners)) hf62
  have H := H.add (F := Rp SB [.slice a13q41 ((askOf h22s.read 0).data.length) k13q41] ((askOf h22s.read 0).data)) hf53
  have H := H.add (F := Rp (Shape.slice Shape.str) [.slice a19q41 ((askOf h22s.read 0).names.length) k19q41] ((askOf h22s.read 0).names)) hf59
  refine qP 1 (sq 15 18) [(2, .slice a5 ((chksOf ([1#8, 2#8, 3#8] : List (BitVec 8)) 1 1).length) c6), (4, .P b32 0), (37, .bool false), (40, .pointer (some ⟨b37, o38 + 2, none⟩))] ?_
  refine qL .seq 41 (sq 16 18) 3 b37 (o38 + 2) 2 (.I ((askOf h22s.read 0).to)) (H.fc 5 rfl) ?_
  refine qF 2 [(2, .slice a5 ((chksOf ([1#8, 2#8, 3#8] : List (BitVec 8)) 1 1).length) c6), (4, .P b32 0), (43, .bool (((askOf h22s.read 0).to) != 1))] ?_
  refine qN ((askOf h22s.read 0).to) 1 (fun h72 => ?_) (fun h72 => ?_)
  ·
   exact absurd (by decide) h72
  ·
   refine qR 2 [.c [4, 0], .c [5]] [(2, .slice a5 ((chksOf ([1#8, 2#8, 3#8] : List (BitVec 8)) 1 1).length) c6), (4, .P b32 0)] ?_
   refine WK.joinV (α := Nat × Shf × Option Addr × Nat × Option Addr × Nat × Option Addr × Nat × Option Addr × Nat × Option Addr × Nat × Option Addr × Nat × Option Addr × Nat × Option Addr × Nat × List Msg × Option Addr × Nat) (fun x_ w_ => match x_ with | (bj1, sj1, a006j1, k006j1, a03j1, k03j1, a04j1, k04j1, a1j1, k1j1, a33j1, k33j1, a34j1, k34j1, a35j1, k35j1, a36j1, k36j1, Lj1, maj1, mcj1) => Hp w S [] [(bj1, .cells (shfV sj1 a006j1 k006j1 a03j1 k03j1 a04j1 k04j1 a1j1 k1j1 a33j1 k33j1 a34j1 k34j1 a35j1 k35j1 a36j1 k36j1).toArray 118 (0, 0)), (b32, .cells (shfV s29 a006o31 k006o31 a03o31 k03o31 a04o31 k04o31 a1o31 k1o31 a33o31 k33o31 a34o31 k34o31 a35o31 k35o31 a36o31 k36o31).toArray 118 (0, 0)), (b17, .cells (objV (objOf ([1#8, 2#8, 3#8] : List (BitVec 8)) 1) a6q10 k6q10).toArray 102 (0, 0))] [] [Rp (Shape.slice msgS) [.slice maj1 Lj1.length mcj1] Lj1, Rp Li [.slice a006j1 sj1.read.object.nodes.length k006j1] sj1.read.object.nodes, Rp (Shape.slice pcS) [.slice a03j1 sj1.read.pieces.length k03j1] sj1.read.pieces, Rp Li [.slice a04j1 sj1.read.bad.length k04j1] sj1.read.bad, Rp Li [.slice a1j1 sj1.to.length k1j1] sj1.to, Rp (Shape.slice hdrS) [.slice a33j1 sj1.write.heads.length k33j1] sj1.write.heads, Rp (Shape.slice SB) [.slice a34j1 sj1.write.chunks.length k34j1] sj1.write.chunks, Rp Li [.slice a35j1 sj1.write.nodes.length k35j1] sj1.write.nodes, Rp Li [.slice a36j1 sj1.write.acks.length k36j1] sj1.write.acks, Rp (Shape.slice Shape.str) [.slice a19q41 ((askOf h22s.read 0).names.length) k19q41] ((askOf h22s.read 0).names), Rp SB [.slice a13q41 ((askOf h22s.read 0).data.length) k13q41] ((askOf h22s.read 0).data), Rp Li [.slice a1q60 (((askOf h22s.read 0).conf).learners.length) k1q60] (((askOf h22s.read 0).conf).learners), Rp Li [.slice a0q60 (((askOf h22s.read 0).conf).voters.length) k0q60] (((askOf h22s.read 0).conf).voters), Rp (Shape.slice entS) [.slice a10q41 ((askOf h22s.read 0).entries.length) k10q41] ((askOf h22s.read 0).entries), Rp (Shape.slice msgS) [.slice a24 ((asksR (beginR (objOf ([1#8, 2#8, 3#8] : List (BitVec 8)) 1) 1 1 10)).length) c25] (asksR (beginR (objOf ([1#8, 2#8, 3#8] : List (BitVec 8)) 1) 1 1 10)), Rp Li [.slice a006o31 s29.read.object.nodes.length k006o31] s29.read.object.nodes, Rp (Shape.slice pcS) [.slice a03o31 s29.read.pieces.length k03o31] s29.read.pieces, Rp Li [.slice a04o31 s29.read.bad.length k04o31] s29.read.bad, Rp Li [.slice a1o31 s29.to.length k1o31] s29.to, Rp (Shape.slice hdrS) [.slice a33o31 s29.write.heads.length k33o31] s29.write.heads, Rp (Shape.slice SB) [.slice a34o31 s29.write.chunks.length k34o31] s29.write.chunks, Rp Li [.slice a35o31 s29.write.nodes.length k35o31] s29.write.nodes, Rp Li [.slice a36o31 s29.write.acks.length k36o31] s29.write.acks, Rp Li [.slice (some ⟨b20, 0, none⟩) 1 1] ([2] : List Int), Rp Li [.slice a6q10 ((objOf ([1#8, 2#8, 3#8] : List (BitVec 8)) 1).nodes.length) k6q10] ((objOf ([1#8, 2#8, 3#8] : List (BitVec 8)) 1).nodes), Rp (Shape.slice chkS) [.slice a5 ((chksOf ([1#8, 2#8, 3#8] : List (BitVec 8)) 1 1).length) c6] (chksOf ([1#8, 2#8, 3#8] : List (BitVec 8)) 1 1), Rp SB [.slice (some ⟨b1, 0, none⟩) 3 3] ([1#8, 2#8, 3#8] : List (BitVec 8))] w_ ∧ (sj1 = h22t) ∧ shB sj1 ∧ Lj1 = h22L) (fun x_ => match x_ with | (bj1, sj1, a006j1, k006j1, a03j1, k03j1, a04j1, k04j1, a1j1, k1j1, a33j1, k33j1, a34j1, k34j1, a35j1, k35j1, a36j1, k36j1, Lj1, maj1, mcj1) => [(7, .P bj1 0), (8, .slice maj1 Lj1.length mcj1), (9, .I sj1.done)]) [Cq Try.prog 51 [5]] (fun hJ73 => ?_) ?_
   ·
    refine WK.drawH1 [] (.node (qs [0, 1, 2, 3, 4, 5, 6, 7, 8, 9]) (.cons 10 (.leaf [(11, .qui), (12, .qui), (13, .qui), (14, .qui), (15, .seq), (16, .seq), (17, .qui), (18, .qui)]) (.cons 15 (.leaf [(10, .seq), (11, .qui), (12, .qui), (13, .qui), (14, .qui), (16, .seq), (17, .qui), (18, .qui)]) .nil))) Try_mixed (by as_aux_lemma => kernel_rfl) (by as_aux_lemma => kernel_rfl) ?_
    intro w75 hw76
    have H := H.draw
    rw [← hw76] at H
    clear hw76
    have hS := Chg.refl w75 []
    refine RG.node' (qs [0, 1, 2, 3, 4, 5, 6, 7, 8, 9]) (by as_aux_lemma => kernel_rfl) ?_
    refine qHL 45 (qs [1, 2, 3, 4, 5, 6, 7, 8, 9]) 118 b32 0 0 (.agg (shfV s29 a006o31 k006o31 a03o31 k03o31 a04o31 k04o31 a1o31 k1o31 a33o31 k33o31 a34o31 k34o31 a35o31 k35o31 a36o31 k36o31).toArray) hS (H.cells 0 rfl) (by simp) ?_
    refine qHP hS 1 (qs [2, 3, 4, 5, 6, 7, 8, 9]) [(2, .slice a5 ((chksOf ([1#8, 2#8, 3#8] : List (BitVec 8)) 1 1).length) c6), (45, .agg (shfV s29 a006o31 k006o31 a03o31 k03o31 a04o31 k04o31 a1o31 k1o31 a33o31 k33o31 a34o31 k34o31 a35o31 k35o31 a36o31 k36o31).toArray), (46, .slice a5 ((chksOf ([1#8, 2#8, 3#8] : List (BitVec 8)) 1 1).length) c6)] ?_
    have hx77 : 0 < (chksOf ([1#8, 2#8, 3#8] : List (BitVec 8)) 1 1).length := by rw [chksOf_len]; decide
    refine RH.index (d := some 47) (r := (qs [3, 4, 5, 6, 7, 8, 9])) (T := 103) (e := 92) (ik := .i64) (ix := 0) (sh := chkS) (x := (chkAt [1#8, 2#8, 3#8] 1 1 0)) (by as_aux_lemma => kernel_rfl) hS (by as_aux_lemma => kernel_rfl) H 17 rfl 0 (by omega) (chksOf_get (by decide)) ?_
    intro b78 o79 es80 hr81 H
    obtain ⟨cs0q82, a1q82, k1q82, rfl, hf83, hf84⟩ := chk_open hr81
    obtain ⟨cs0q85, rfl, hf86, hf87, hf88, hf89⟩ := hdr_open hf83
    obtain ⟨rfl, hf91, hf92, hf93⟩ := cid_open hf86
    have H := H.add (F := Rp SB [.slice a1q82 ((chkAt [1#8, 2#8, 3#8] 1 1 0).data.length) k1q82] ((chkAt [1#8, 2#8, 3#8] 1 1 0).data)) hf84
    refine qHP hS 1 (qs [4, 5, 6, 7, 8, 9]) [(2, .slice a5 ((chksOf ([1#8, 2#8, 3#8] : List (BitVec 8)) 1 1).length) c6), (45, .agg (shfV s29 a006o31 k006o31 a03o31 k03o31 a04o31 k04o31 a1o31 k1o31 a33o31 k33o31 a34o31 k34o31 a35o31 k35o31 a36o31 k36o31).toArray), (48, .P b78 o79)] ?_
    refine qHL 49 (qs [5, 6, 7, 8, 9]) 53 b78 o79 0 (.agg (hdrV ((chkAt [1#8, 2#8, 3#8] 1 1 0).head)).toArray) hS (H.fc 1 rfl) (by simp) ?_
    refine qHP hS 1 (qs [6, 7, 8, 9]) [(45, .agg (shfV s29 a006o31 k006o31 a03o31 k03o31 a04o31 k04o31 a1o31 k1o31 a33o31 k33o31 a34o31 k34o31 a35o31 k35o31 a36o31 k36o31).toArray), (49, .agg (hdrV ((chkAt [1#8, 2#8, 3#8] 1 1 0).head)).toArray), (50, .slice a5 ((chksOf ([1#8, 2#8, 3#8] : List (BitVec 8)) 1 1).length) c6)] ?_
    have hx94 : 0 < (chksOf ([1#8, 2#8, 3#8] : List (BitVec 8)) 1 1).length := by rw [chksOf_len]; decide
    refine RH.index (d := some 51) (r := (qs [7, 8, 9])) (T := 103) (e := 92) (ik := .i64) (ix := 0) (sh := chkS) (x := (chkAt [1#8, 2#8, 3#8] 1 1 0)) (by as_aux_lemma => kernel_rfl) hS (by as_aux_lemma => kernel_rfl) H 19 rfl 0 (by omega) (chksOf_get (by decide)) ?_
    intro b95 o96 es97 hr98 H
    obtain ⟨cs0q99, a1q99, k1q99, rfl, hf100, hf101⟩ := chk_open hr98
    obtain ⟨cs0q102, rfl, hf103, hf104, hf105, hf106⟩ := hdr_open hf100
    obtain ⟨rfl, hf108, hf109, hf110⟩ := cid_open hf103
    have H := H.add (F := Rp SB [.slice a1q99 ((chkAt [1#8, 2#8, 3#8] 1 1 0).data.length) k1q99] ((chkAt [1#8, 2#8, 3#8] 1 1 0).data)) hf101
    refine qHP hS 1 (qs [8, 9]) [(45, .agg (shfV s29 a006o31 k006o31 a03o31 k03o31 a04o31 k04o31 a1o31 k1o31 a33o31 k33o31 a34o31 k34o31 a35o31 k35o31 a36o31 k36o31).toArray), (49, .agg (hdrV ((chkAt [1#8, 2#8, 3#8] 1 1 0).head)).toArray), (52, .pointer (some ⟨b95, o96 + 7, none⟩))] ?_
    refine qHL 53 [(9, .qui)] 23 b95 (o96 + 7) 7 (.slice a1q99 ((chkAt [1#8, 2#8, 3#8] 1 1 0).data.length) k1q99) hS (H.fc 1 rfl) (by simp) ?_
    refine RH.finB hS 1 [45, 54] [(45, .agg (shfV s29 a006o31 k006o31 a03o31 k03o31 a04o31 k04o31 a1o31 k1o31 a33o31 k33o31 a34o31 k34o31 a35o31 k35o31 a36o31 k36o31).toArray), (54, .agg #[.I 15, .I 1, .I 0, .int .u64 0, .int .u64 0, .int .u64 0, .int .u64 0, .int .u64 0, .bool true, .bool false, .slice none 0 0, .slice none 0 0, .slice none 0 0, .int .u64 ((((chkAt [1#8, 2#8, 3#8] 1 1 0).head).id).version), .I ((((chkAt [1#8, 2#8, 3#8] 1 1 0).head).id).index), .int .u64 ((((chkAt [1#8, 2#8, 3#8] 1 1 0).head).id).epoch), .I (((chkAt [1#8, 2#8, 3#8] 1 1 0).head).kk), .I (((chkAt [1#8, 2#8, 3#8] 1 1 0).head).nn), .I (((chkAt [1#8, 2#8, 3#8] 1 1 0).head).size), .int .u32 (((((chkAt [1#8, 2#8, 3#8] 1 1 0).head).sum).toNat : Nat) : Int), .slice a1q99 ((chkAt [1#8, 2#8, 3#8] 1 1 0).data.length) k1q99, .int .u64 0, .int .u64 0, .I 0, .string (⟨#[]⟩), .I 0, .slice none 0 0])] (by as_aux_lemma => kernel_rfl) ?_
    refine (RGB.cons' ?_ (RGB.cons' ?_ RGB.nil'))
    ·
     refine RG.leaf' [(10, .seq), (11, .qui), (12, .qui), (13, .qui), (14, .qui), (15, .seq), (16, .seq), (17, .qui), (18, .qui)] (by as_aux_lemma => kernel_rfl) ?_
     have Hr := H
     refine RH.chn hS ?_
     refine qK .chn (some 55) [] 54 #[.agg (shfV s29 a006o31 k006o31 a03o31 k03o31 a04o31 k04o31 a1o31 k1o31 a33o31 k33o31 a34o31 k34o31 a35o31 k35o31 a36o31 k36o31).toArray, .agg #[.I 15, .I 1, .I 0, .int .u64 0, .int .u64 0, .int .u64 0, .int .u64 0, .int .u64 0, .bool true, .bool false, .slice none 0 0, .slice none 0 0, .slice none 0 0, .int .u64 ((((chkAt [1#8, 2#8, 3#8] 1 1 0).head).id).version), .I ((((chkAt [1#8, 2#8, 3#8] 1 1 0).head).id).index), .int .u64 ((((chkAt [1#8, 2#8, 3#8] 1 1 0).head).id).epoch), .I (((chkAt [1#8, 2#8, 3#8] 1 1 0).head).kk), .I (((chkAt [1#8, 2#8, 3#8] 1 1 0).head).nn), .I (((chkAt [1#8, 2#8, 3#8] 1 1 0).head).size), .int .u32 (((((chkAt [1#8, 2#8, 3#8] 1 1 0).head).sum).toNat : Nat) : Int), .slice a1q99 ((chkAt [1#8, 2#8, 3#8] 1 1 0).data.length) k1q99, .int .u64 0, .int .u64 0, .I 0, .string (⟨#[]⟩), .I 0, .slice none 0 0]] (mgot_any (s := s29) (shf_mk (y0 := s29.read) (y3 := s29.write) (rd_mkB (by unfold rdB; omega) (H.rp 11 rfl) (H.rp 12 rfl) (H.rp 13 rfl)) (H.rp 14 rfl) u64a (wr_mkV u64a u64a ⟨rfl, hso31w⟩ (H.rp 15 rfl) (H.rp 16 rfl) (H.rp 17 rfl) (H.rp 18 rfl) i64a i64a i64a) Shape.bool_mk i64a) (xs := [1#8, 2#8, 3#8]) (k := 1) (n := 1) (hs30 ▸ h22_of) (by rw [hs30]; rfl) (by rw [hs30]; rfl) 1 ((chkAt [1#8, 2#8, 3#8] 1 1 0).head) true (dt := (chkAt [1#8, 2#8, 3#8] 1 1 0).data) (H.rp 0 rfl) (.I 0) (.int .u64 0) (.int .u64 0) (.int .u64 0) (.int .u64 0) (.int .u64 0) (.bool false) (.slice none 0 0) (.slice none 0 0) (.slice none 0 0) (.int .u64 0) (.int .u64 0) (.I 0) (.string (⟨#[]⟩)) (.I 0) (.slice none 0 0) (by rw [hs30]; decide) (by decide +kernel) (good_own 0 rfl rfl) (by rw [hs30]; rfl) (by rw [hs30]; rfl) (by rw [hs30]; decide)) ?_
     rintro _ w112 hE114 ⟨cs113, a120, c121, s116, L123, rfl, hr115, hr122, hlaw118, hL124⟩
     have H0s := H
     obtain ⟨a006o125, k006o125, a03o125, k03o125, a04o125, k04o125, a1o125, k1o125, a33o125, k33o125, a34o125, k34o125, a35o125, k35o125, a36o125, k36o125, rfl, hBo125, H⟩ := addShf H hE114 hr115
     unfold shB wrB rdB at hBo125
     have hso125 := hBo125.1.1
     have hso125w := hBo125.2.2.1.1
     have H := H.add (F := Rp (Shape.slice msgS) [.slice a120 L123.length c121] L123) ((H0s.addN hE114 (F := Rp (Shape.slice msgS) [.slice a120 L123.length c121] L123) hr122).rp 0 rfl)
     intro hS
     refine qHP hS 4 [(15, .seq), (16, .seq), (17, .qui), (18, .qui)] [(56, .agg (shfV s116 a006o125 k006o125 a03o125 k03o125 a04o125 k04o125 a1o125 k1o125 a33o125 k33o125 a34o125 k34o125 a35o125 k35o125 a36o125 k36o125).toArray), (57, .slice a120 L123.length c121), (58, .I s116.done)] ?_
     refine RH.chn hS ?_
     refine RW.newC (κ := .chn) (d := some 7) (r := []) (o := .cells (shfZ).toArray 118 (0, 0)) (v := fun b => .P b 0) (fun b => by as_aux_lemma => kernel_rfl) (nofun) H ?_
     intro b127 w128 hnw126 H
     have hnb129 := Nat.le_trans hS.size hnw126
     intro hS
     refine RH.sto ?_
     refine qWC 118 b127 0 [] (.agg (shfV s116 a006o125 k006o125 a03o125 k03o125 a04o125 k04o125 a1o125 k1o125 a33o125 k33o125 a34o125 k34o125 a35o125 k35o125 a36o125 k36o125).toArray) [(b127, .cells (shfV s116 a006o125 k006o125 a03o125 k03o125 a04o125 k04o125 a1o125 k1o125 a33o125 k33o125 a34o125 k34o125 a35o125 k35o125 a36o125 k36o125).toArray 118 (0, 0)), (b32, .cells (shfV s29 a006o31 k006o31 a03o31 k03o31 a04o31 k04o31 a1o31 k1o31 a33o31 k33o31 a34o31 k34o31 a35o31 k35o31 a36o31 k36o31).toArray 118 (0, 0)), (b17, .cells (objV (objOf ([1#8, 2#8, 3#8] : List (BitVec 8)) 1) a6q10 k6q10).toArray 102 (0, 0))] H 0 rfl rfl ?_
     intro w131 hch130 H
     have hS132 := hS.sto hch130 (.inl hnb129)
     refine ⟨hS132, ?_⟩
     have hS := hS132
     refine RH.fin hS 2 [7, 8, 9] [(7, .P b127 0), (8, .slice a120 L123.length c121), (9, .I s116.done)] (by as_aux_lemma => kernel_rfl) ?_
     have H := H.pick [0, 1, 2, 3, 4, 5, 6, 7, 8, 13, 14, 15, 16, 17, 19, 20, 21, 22, 23, 24, 25, 26, 27, 28, 29, 30, 31] rfl
     exact hJ73 (b127, s116, a006o125, k006o125, a03o125, k03o125, a04o125, k04o125, a1o125, k1o125, a33o125, k33o125, a34o125, k34o125, a35o125, k35o125, a36o125, k36o125, L123, a120, c121) _ ⟨H, hlaw118.trans (by rw [hs30]; rfl), by unfold shB wrB rdB; omega, hL124.trans (by rw [hs30]; rfl)⟩
    ·
     refine RG.leaf' [(15, .seq), (10, .seq), (11, .qui), (12, .qui), (13, .qui), (14, .qui), (16, .seq), (17, .qui), (18, .qui)] (by as_aux_lemma => kernel_rfl) ?_
     have Hr := H
     refine RH.chn hS ?_
     refine RW.newC (κ := .chn) (d := some 7) (r := []) (o := .cells (shfZ).toArray 118 (0, 0)) (v := fun b => .P b 0) (fun b => by as_aux_lemma => kernel_rfl) (nofun) H ?_
     intro b134 w135 hnw133 H
     have hnb136 := Nat.le_trans hS.size hnw133
     intro hS
     refine RH.chn hS ?_
     refine qK .chn (some 55) [] 54 #[.agg (shfV s29 a006o31 k006o31 a03o31 k03o31 a04o31 k04o31 a1o31 k1o31 a33o31 k33o31 a34o31 k34o31 a35o31 k35o31 a36o31 k36o31).toArray, .agg #[.I 15, .I 1, .I 0, .int .u64 0, .int .u64 0, .int .u64 0, .int .u64 0, .int .u64 0, .bool true, .bool false, .slice none 0 0, .slice none 0 0, .slice none 0 0, .int .u64 ((((chkAt [1#8, 2#8, 3#8] 1 1 0).head).id).version), .I ((((chkAt [1#8, 2#8, 3#8] 1 1 0).head).id).index), .int .u64 ((((chkAt [1#8, 2#8, 3#8] 1 1 0).head).id).epoch), .I (((chkAt [1#8, 2#8, 3#8] 1 1 0).head).kk), .I (((chkAt [1#8, 2#8, 3#8] 1 1 0).head).nn), .I (((chkAt [1#8, 2#8, 3#8] 1 1 0).head).size), .int .u32 (((((chkAt [1#8, 2#8, 3#8] 1 1 0).head).sum).toNat : Nat) : Int), .slice a1q99 ((chkAt [1#8, 2#8, 3#8] 1 1 0).data.length) k1q99, .int .u64 0, .int .u64 0, .I 0, .string (⟨#[]⟩), .I 0, .slice none 0 0]] (mgot_any (s := s29) (shf_mk (y0 := s29.read) (y3 := s29.write) (rd_mkB (by unfold rdB; omega) (H.rp 11 rfl) (H.rp 12 rfl) (H.rp 13 rfl)) (H.rp 14 rfl) u64a (wr_mkV u64a u64a ⟨rfl, hso31w⟩ (H.rp 15 rfl) (H.rp 16 rfl) (H.rp 17 rfl) (H.rp 18 rfl) i64a i64a i64a) Shape.bool_mk i64a) (xs := [1#8, 2#8, 3#8]) (k := 1) (n := 1) (hs30 ▸ h22_of) (by rw [hs30]; rfl) (by rw [hs30]; rfl) 1 ((chkAt [1#8, 2#8, 3#8] 1 1 0).head) true (dt := (chkAt [1#8, 2#8, 3#8] 1 1 0).data) (H.rp 0 rfl) (.I 0) (.int .u64 0) (.int .u64 0) (.int .u64 0) (.int .u64 0) (.int .u64 0) (.bool false) (.slice none 0 0) (.slice none 0 0) (.slice none 0 0) (.int .u64 0) (.int .u64 0) (.I 0) (.string (⟨#[]⟩)) (.I 0) (.slice none 0 0) (by rw [hs30]; decide) (by decide +kernel) (good_own 0 rfl rfl) (by rw [hs30]; rfl) (by rw [hs30]; rfl) (by rw [hs30]; decide)) ?_
     rintro _ w138 hE140 ⟨cs139, a146, c147, s142, L149, rfl, hr141, hr148, hlaw144, hL150⟩
     have H0s := H
     obtain ⟨a006o151, k006o151, a03o151, k03o151, a04o151, k04o151, a1o151, k1o151, a33o151, k33o151, a34o151, k34o151, a35o151, k35o151, a36o151, k36o151, rfl, hBo151, H⟩ := addShf H hE140 hr141
     unfold shB wrB rdB at hBo151
     have hso151 := hBo151.1.1
     have hso151w := hBo151.2.2.1.1
     have H := H.add (F := Rp (Shape.slice msgS) [.slice a146 L149.length c147] L149) ((H0s.addN hE140 (F := Rp (Shape.slice msgS) [.slice a146 L149.length c147] L149) hr148).rp 0 rfl)
     intro hS
     refine qHP hS 4 [(16, .seq), (17, .qui), (18, .qui)] [(7, .P b134 0), (56, .agg (shfV s142 a006o151 k006o151 a03o151 k03o151 a04o151 k04o151 a1o151 k1o151 a33o151 k33o151 a34o151 k34o151 a35o151 k35o151 a36o151 k36o151).toArray), (57, .slice a146 L149.length c147), (58, .I s142.done)] ?_
     refine RH.sto ?_
     refine qWC 118 b134 0 [] (.agg (shfV s142 a006o151 k006o151 a03o151 k03o151 a04o151 k04o151 a1o151 k1o151 a33o151 k33o151 a34o151 k34o151 a35o151 k35o151 a36o151 k36o151).toArray) [(b134, .cells (shfV s142 a006o151 k006o151 a03o151 k03o151 a04o151 k04o151 a1o151 k1o151 a33o151 k33o151 a34o151 k34o151 a35o151 k35o151 a36o151 k36o151).toArray 118 (0, 0)), (b32, .cells (shfV s29 a006o31 k006o31 a03o31 k03o31 a04o31 k04o31 a1o31 k1o31 a33o31 k33o31 a34o31 k34o31 a35o31 k35o31 a36o31 k36o31).toArray 118 (0, 0)), (b17, .cells (objV (objOf ([1#8, 2#8, 3#8] : List (BitVec 8)) 1) a6q10 k6q10).toArray 102 (0, 0))] H 0 rfl rfl ?_
     intro w153 hch152 H
     have hS154 := hS.sto hch152 (.inl hnb136)
     refine ⟨hS154, ?_⟩
     have hS := hS154
     refine RH.fin hS 2 [7, 8, 9] [(7, .P b134 0), (8, .slice a146 L149.length c147), (9, .I s142.done)] (by as_aux_lemma => kernel_rfl) ?_
     have H := H.pick [0, 1, 2, 3, 4, 5, 6, 7, 8, 13, 14, 15, 16, 17, 19, 20, 21, 22, 23, 24, 25, 26, 27, 28, 29, 30, 31] rfl
     exact hJ73 (b134, s142, a006o151, k006o151, a03o151, k03o151, a04o151, k04o151, a1o151, k1o151, a33o151, k33o151, a34o151, k34o151, a35o151, k35o151, a36o151, k36o151, L149, a146, c147) _ ⟨H, hlaw144.trans (by rw [hs30]; rfl), by unfold shB wrB rdB; omega, hL150.trans (by rw [hs30]; rfl)⟩
   ·
    rintro ⟨bj1, sj1, a006j1, k006j1, a03j1, k03j1, a04j1, k04j1, a1j1, k1j1, a33j1, k33j1, a34j1, k34j1, a35j1, k35j1, a36j1, k36j1, Lj1, maj1, mcj1⟩ w74 ⟨H, hij1⟩
    obtain ⟨hlj1, hBsj1, hxj1⟩ := hij1
    have hBj1 := hBsj1
    unfold shB wrB rdB at hBj1
    have hsj1 := hBj1.1.1
    have hsj1w := hBj1.2.2.1.1
    refine qR 2 [.c [5, 0, 0], .c [5, 0, 1], .c [6]] [(7, .P bj1 0), (8, .slice maj1 Lj1.length mcj1), (9, .I sj1.done)] ?_
    refine qG (sq 0 23) ?_
    refine qP 3 (sq 3 23) [(7, .P bj1 0), (8, .slice maj1 Lj1.length mcj1), (61, .bool (sj1.done != 0))] ?_
    refine tN (fun b_ => [(7, .P bj1 0), (8, .slice maj1 Lj1.length mcj1), (61, .bool b_)]) sj1.done 0 (fun h155 => ?_) (fun h155 => ?_)
    ·
     exact absurd (by rw [hlj1]; exact h22_d) h155
    ·
     refine qP 5 (sq 8 23) [(7, .P bj1 0), (8, .slice maj1 Lj1.length mcj1), (66, .bool (((Lj1.length : Nat) : Int) != 1))] ?_
     refine tN (fun b_ => [(7, .P bj1 0), (8, .slice maj1 Lj1.length mcj1), (66, .bool b_)]) ((Lj1.length : Nat) : Int) 1 (fun h156 => ?_) (fun h156 => ?_)
     ·
      exact absurd (by rw [hxj1]; exact congrArg (fun q : Nat => (q : Int)) h22_ml) h156
     ·
      refine qP 1 (sq 9 23) [(7, .P bj1 0), (8, .slice maj1 Lj1.length mcj1), (66, .bool false), (67, .slice maj1 Lj1.length mcj1)] ?_
      have hx157 : 0 < Lj1.length := by rw [hxj1, h22_ml]; decide
      refine qX .seq 68 (sq 10 23) 33 57 0 msgS h22m H 0 rfl 0 (by omega) (by rw [hxj1]; exact h22_m) ?_
      intro b158 o159 es160 hr161 H
      obtain ⟨a10q162, k10q162, cs11q162, cs12q162, a13q162, k13q162, a19q162, k19q162, rfl, hf163, hf164, hf165, hf166, hf167, hf168, hf169, hf170, hf171, hf172, hf173, hf174, hf175, hf176, hf177, hf178, hf179, hf180⟩ := msg_open hr161
      obtain ⟨a0q181, k0q181, a1q181, k1q181, rfl, hf182, hf183⟩ := conf_open hf172
      obtain ⟨cs0q184, rfl, hf185, hf186, hf187, hf188⟩ := hdr_open hf173
      obtain ⟨rfl, hf190, hf191, hf192⟩ := cid_open hf185
      have H := H.add (F := Rp (Shape.slice entS) [.slice a10q162 h22m.entries.length k10q162] h22m.entries) hf171
      have H := H.add (F := Rp Li [.slice a0q181 h22m.conf.voters.length k0q181] h22m.conf.voters) hf182
      have H := H.add (F := Rp Li [.slice a1q181 h22m.conf.learners.length k1q181] h22m.conf.learners) hf183
      have H := H.add (F := Rp SB [.slice a13q162 h22m.data.length k13q162] h22m.data) hf174
      have H := H.add (F := Rp (Shape.slice Shape.str) [.slice a19q162 h22m.names.length k19q162] h22m.names) hf180
      refine qP 1 (sq 11 23) [(7, .P bj1 0), (8, .slice maj1 Lj1.length mcj1), (66, .bool false), (69, .pointer (some ⟨b158, o159 + 2, none⟩))] ?_
      refine qL .seq 70 (sq 12 23) 3 b158 (o159 + 2) 2 (.I h22m.to) (H.fc 5 rfl) ?_
      refine qP 3 (sq 15 23) [(7, .P bj1 0), (8, .slice maj1 Lj1.length mcj1), (73, .bool (h22m.to != 2))] ?_
      refine tN (fun b_ => [(7, .P bj1 0), (8, .slice maj1 Lj1.length mcj1), (73, .bool b_)]) h22m.to 2 (fun h193 => ?_) (fun h193 => ?_)
      ·
       exact absurd h22_to h193
      ·
       refine qP 1 (sq 16 23) [(7, .P bj1 0), (8, .slice maj1 Lj1.length mcj1), (73, .bool false), (74, .slice maj1 Lj1.length mcj1)] ?_
       have hx194 : 0 < Lj1.length := by rw [hxj1, h22_ml]; decide
       refine qX .seq 75 (sq 17 23) 33 57 0 msgS h22m H 6 rfl 0 (by omega) (by rw [hxj1]; exact h22_m) ?_
       intro b195 o196 es197 hr198 H
       obtain ⟨a10q199, k10q199, cs11q199, cs12q199, a13q199, k13q199, a19q199, k19q199, rfl, hf200, hf201, hf202, hf203, hf204, hf205, hf206, hf207, hf208, hf209, hf210, hf211, hf212, hf213, hf214, hf215, hf216, hf217⟩ := msg_open hr198
       obtain ⟨a0q218, k0q218, a1q218, k1q218, rfl, hf219, hf220⟩ := conf_open hf209
       obtain ⟨cs0q221, rfl, hf222, hf223, hf224, hf225⟩ := hdr_open hf210
       obtain ⟨rfl, hf227, hf228, hf229⟩ := cid_open hf222
       have H := H.add (F := Rp (Shape.slice entS) [.slice a10q199 h22m.entries.length k10q199] h22m.entries) hf208
       have H := H.add (F := Rp Li [.slice a0q218 h22m.conf.voters.length k0q218] h22m.conf.voters) hf219
       have H := H.add (F := Rp Li [.slice a1q218 h22m.conf.learners.length k1q218] h22m.conf.learners) hf220
       have H := H.add (F := Rp SB [.slice a13q199 h22m.data.length k13q199] h22m.data) hf211
       have H := H.add (F := Rp (Shape.slice Shape.str) [.slice a19q199 h22m.names.length k19q199] h22m.names) hf217
       refine qP 3 (sq 20 23) [(7, .P bj1 0), (8, .slice maj1 Lj1.length mcj1), (73, .bool false), (78, .pointer (some ⟨b195, o196 + 15, none⟩))] ?_
       refine qL .seq 79 (sq 21 23) 22 b195 (o196 + 15) 15 (.int .u64 h22m.head.id.epoch) (H.fc 5 rfl) ?_
       refine qF 2 [(7, .P bj1 0), (8, .slice maj1 Lj1.length mcj1), (81, .bool (h22m.head.id.epoch != 3))] ?_
       refine qN h22m.head.id.epoch 3 (fun h230 => ?_) (fun h230 => ?_)
       ·
        exact absurd h22_ep h230
       ·
        refine qR 2 [.c [6, 0], .c [7]] [(7, .P bj1 0), (8, .slice maj1 Lj1.length mcj1)] ?_
        refine WK.joinV (α := Shf) (fun x_ w_ => match x_ with | sj2 => Hp w S [] [(bj1, .cells (shfV sj1 a006j1 k006j1 a03j1 k03j1 a04j1 k04j1 a1j1 k1j1 a33j1 k33j1 a34j1 k34j1 a35j1 k35j1 a36j1 k36j1).toArray 118 (0, 0)), (b32, .cells (shfV s29 a006o31 k006o31 a03o31 k03o31 a04o31 k04o31 a1o31 k1o31 a33o31 k33o31 a34o31 k34o31 a35o31 k35o31 a36o31 k36o31).toArray 118 (0, 0)), (b17, .cells (objV (objOf ([1#8, 2#8, 3#8] : List (BitVec 8)) 1) a6q10 k6q10).toArray 102 (0, 0))] [] [Rp (Shape.slice Shape.str) [.slice a19q199 h22m.names.length k19q199] h22m.names, Rp SB [.slice a13q199 h22m.data.length k13q199] h22m.data, Rp Li [.slice a1q218 h22m.conf.learners.length k1q218] h22m.conf.learners, Rp Li [.slice a0q218 h22m.conf.voters.length k0q218] h22m.conf.voters, Rp (Shape.slice entS) [.slice a10q199 h22m.entries.length k10q199] h22m.entries, Rp (Shape.slice Shape.str) [.slice a19q162 h22m.names.length k19q162] h22m.names, Rp SB [.slice a13q162 h22m.data.length k13q162] h22m.data, Rp Li [.slice a1q181 h22m.conf.learners.length k1q181] h22m.conf.learners, Rp Li [.slice a0q181 h22m.conf.voters.length k0q181] h22m.conf.voters, Rp (Shape.slice entS) [.slice a10q162 h22m.entries.length k10q162] h22m.entries, Rp (Shape.slice msgS) [.slice maj1 Lj1.length mcj1] Lj1, Rp Li [.slice a006j1 sj1.read.object.nodes.length k006j1] sj1.read.object.nodes, Rp (Shape.slice pcS) [.slice a03j1 sj1.read.pieces.length k03j1] sj1.read.pieces, Rp Li [.slice a04j1 sj1.read.bad.length k04j1] sj1.read.bad, Rp Li [.slice a1j1 sj1.to.length k1j1] sj1.to, Rp (Shape.slice hdrS) [.slice a33j1 sj1.write.heads.length k33j1] sj1.write.heads, Rp (Shape.slice SB) [.slice a34j1 sj1.write.chunks.length k34j1] sj1.write.chunks, Rp Li [.slice a35j1 sj1.write.nodes.length k35j1] sj1.write.nodes, Rp Li [.slice a36j1 sj1.write.acks.length k36j1] sj1.write.acks, Rp (Shape.slice Shape.str) [.slice a19q41 ((askOf h22s.read 0).names.length) k19q41] ((askOf h22s.read 0).names), Rp SB [.slice a13q41 ((askOf h22s.read 0).data.length) k13q41] ((askOf h22s.read 0).data), Rp Li [.slice a1q60 (((askOf h22s.read 0).conf).learners.length) k1q60] (((askOf h22s.read 0).conf).learners), Rp Li [.slice a0q60 (((askOf h22s.read 0).conf).voters.length) k0q60] (((askOf h22s.read 0).conf).voters), Rp (Shape.slice entS) [.slice a10q41 ((askOf h22s.read 0).entries.length) k10q41] ((askOf h22s.read 0).entries), Rp (Shape.slice msgS) [.slice a24 ((asksR (beginR (objOf ([1#8, 2#8, 3#8] : List (BitVec 8)) 1) 1 1 10)).length) c25] (asksR (beginR (objOf ([1#8, 2#8, 3#8] : List (BitVec 8)) 1) 1 1 10)), Rp Li [.slice a006o31 s29.read.object.nodes.length k006o31] s29.read.object.nodes, Rp (Shape.slice pcS) [.slice a03o31 s29.read.pieces.length k03o31] s29.read.pieces, Rp Li [.slice a04o31 s29.read.bad.length k04o31] s29.read.bad, Rp Li [.slice a1o31 s29.to.length k1o31] s29.to, Rp (Shape.slice hdrS) [.slice a33o31 s29.write.heads.length k33o31] s29.write.heads, Rp (Shape.slice SB) [.slice a34o31 s29.write.chunks.length k34o31] s29.write.chunks, Rp Li [.slice a35o31 s29.write.nodes.length k35o31] s29.write.nodes, Rp Li [.slice a36o31 s29.write.acks.length k36o31] s29.write.acks, Rp Li [.slice (some ⟨b20, 0, none⟩) 1 1] ([2] : List Int), Rp Li [.slice a6q10 ((objOf ([1#8, 2#8, 3#8] : List (BitVec 8)) 1).nodes.length) k6q10] ((objOf ([1#8, 2#8, 3#8] : List (BitVec 8)) 1).nodes), Rp (Shape.slice chkS) [.slice a5 ((chksOf ([1#8, 2#8, 3#8] : List (BitVec 8)) 1 1).length) c6] (chksOf ([1#8, 2#8, 3#8] : List (BitVec 8)) 1 1), Rp SB [.slice (some ⟨b1, 0, none⟩) 3 3] ([1#8, 2#8, 3#8] : List (BitVec 8))] w_ ∧ sj2 = mwriteR h22t 2 h22m.head true) (fun x_ => match x_ with | sj2 => [(12, .I sj2.done)]) [Cq Try.prog 51 [7]] (fun hJ231 => ?_) ?_
        ·
         refine WK.drawH1 [] (.node (qs [0, 1, 2, 3, 4, 5]) (.cons 6 (.leaf [(7, .qui), (8, .qui), (9, .qui), (10, .qui), (11, .seq), (12, .seq), (13, .qui), (14, .qui)]) (.cons 11 (.leaf [(6, .seq), (7, .qui), (8, .qui), (9, .qui), (10, .qui), (12, .seq), (13, .qui), (14, .qui)]) .nil))) Try_mixed (by as_aux_lemma => kernel_rfl) (by as_aux_lemma => kernel_rfl) ?_
         intro w233 hw234
         have H := H.draw
         rw [← hw234] at H
         clear hw234
         have hS := Chg.refl w233 []
         refine RG.node' (qs [0, 1, 2, 3, 4, 5]) (by as_aux_lemma => kernel_rfl) ?_
         refine qHL 83 (qs [1, 2, 3, 4, 5]) 118 bj1 0 0 (.agg (shfV sj1 a006j1 k006j1 a03j1 k03j1 a04j1 k04j1 a1j1 k1j1 a33j1 k33j1 a34j1 k34j1 a35j1 k35j1 a36j1 k36j1).toArray) hS (H.cells 0 rfl) (by simp) ?_
         refine qHP hS 1 (qs [2, 3, 4, 5]) [(83, .agg (shfV sj1 a006j1 k006j1 a03j1 k03j1 a04j1 k04j1 a1j1 k1j1 a33j1 k33j1 a34j1 k34j1 a35j1 k35j1 a36j1 k36j1).toArray), (84, .slice maj1 Lj1.length mcj1)] ?_
         have hx235 : 0 < Lj1.length := by rw [hxj1, h22_ml]; decide
         refine RH.index (d := some 85) (r := (qs [3, 4, 5])) (T := 33) (e := 57) (ik := .i64) (ix := 0) (sh := msgS) (x := h22m) (by as_aux_lemma => kernel_rfl) hS (by as_aux_lemma => kernel_rfl) H 12 rfl 0 (by omega) (by rw [hxj1]; exact h22_m) ?_
         intro b236 o237 es238 hr239 H
         obtain ⟨a10q240, k10q240, cs11q240, cs12q240, a13q240, k13q240, a19q240, k19q240, rfl, hf241, hf242, hf243, hf244, hf245, hf246, hf247, hf248, hf249, hf250, hf251, hf252, hf253, hf254, hf255, hf256, hf257, hf258⟩ := msg_open hr239
         obtain ⟨a0q259, k0q259, a1q259, k1q259, rfl, hf260, hf261⟩ := conf_open hf250
         obtain ⟨cs0q262, rfl, hf263, hf264, hf265, hf266⟩ := hdr_open hf251
         obtain ⟨rfl, hf268, hf269, hf270⟩ := cid_open hf263
         have H := H.add (F := Rp (Shape.slice entS) [.slice a10q240 h22m.entries.length k10q240] h22m.entries) hf249
         have H := H.add (F := Rp Li [.slice a0q259 h22m.conf.voters.length k0q259] h22m.conf.voters) hf260
         have H := H.add (F := Rp Li [.slice a1q259 h22m.conf.learners.length k1q259] h22m.conf.learners) hf261
         have H := H.add (F := Rp SB [.slice a13q240 h22m.data.length k13q240] h22m.data) hf252
         have H := H.add (F := Rp (Shape.slice Shape.str) [.slice a19q240 h22m.names.length k19q240] h22m.names) hf258
         refine qHP hS 1 (qs [4, 5]) [(83, .agg (shfV sj1 a006j1 k006j1 a03j1 k03j1 a04j1 k04j1 a1j1 k1j1 a33j1 k33j1 a34j1 k34j1 a35j1 k35j1 a36j1 k36j1).toArray), (86, .pointer (some ⟨b236, o237 + 13, none⟩))] ?_
         refine qHL 87 [(5, .qui)] 53 b236 (o237 + 13) 13 (.agg (hdrV h22m.head).toArray) hS (H.fc 5 rfl) (by simp) ?_
         refine RH.finB hS 1 [83, 88] [(83, .agg (shfV sj1 a006j1 k006j1 a03j1 k03j1 a04j1 k04j1 a1j1 k1j1 a33j1 k33j1 a34j1 k34j1 a35j1 k35j1 a36j1 k36j1).toArray), (88, .agg #[.I 10, .I 2, .I 0, .int .u64 0, .int .u64 0, .int .u64 0, .int .u64 0, .int .u64 0, .bool true, .bool false, .slice none 0 0, .slice none 0 0, .slice none 0 0, .int .u64 h22m.head.id.version, .I h22m.head.id.index, .int .u64 h22m.head.id.epoch, .I h22m.head.kk, .I h22m.head.nn, .I h22m.head.size, .int .u32 ((h22m.head.sum.toNat : Nat) : Int), .slice none 0 0, .int .u64 0, .int .u64 0, .I 0, .string (⟨#[]⟩), .I 0, .slice none 0 0])] (by as_aux_lemma => kernel_rfl) ?_
         refine (RGB.cons' ?_ (RGB.cons' ?_ RGB.nil'))
         ·
          refine RG.leaf' [(6, .seq), (7, .qui), (8, .qui), (9, .qui), (10, .qui), (11, .seq), (12, .seq), (13, .qui), (14, .qui)] (by as_aux_lemma => kernel_rfl) ?_
          have Hr := H
          refine RH.chn hS ?_
          refine qK .chn (some 89) [] 54 #[.agg (shfV sj1 a006j1 k006j1 a03j1 k03j1 a04j1 k04j1 a1j1 k1j1 a33j1 k33j1 a34j1 k34j1 a35j1 k35j1 a36j1 k36j1).toArray, .agg #[.I 10, .I 2, .I 0, .int .u64 0, .int .u64 0, .int .u64 0, .int .u64 0, .int .u64 0, .bool true, .bool false, .slice none 0 0, .slice none 0 0, .slice none 0 0, .int .u64 h22m.head.id.version, .I h22m.head.id.index, .int .u64 h22m.head.id.epoch, .I h22m.head.kk, .I h22m.head.nn, .I h22m.head.size, .int .u32 ((h22m.head.sum.toNat : Nat) : Int), .slice none 0 0, .int .u64 0, .int .u64 0, .I 0, .string (⟨#[]⟩), .I 0, .slice none 0 0]] (mgot_ready (s := sj1) (shf_mk (y0 := sj1.read) (y3 := sj1.write) (rd_mkB (by unfold rdB; omega) (H.rp 19 rfl) (H.rp 20 rfl) (H.rp 21 rfl)) (H.rp 22 rfl) u64a (wr_mkV u64a u64a ⟨rfl, hsj1w⟩ (H.rp 23 rfl) (H.rp 24 rfl) (H.rp 25 rfl) (H.rp 26 rfl) i64a i64a i64a) Shape.bool_mk i64a) (by rw [hlj1]; exact h22_d) (by rw [hlj1]; rfl) 2 h22m.head true (.I 0) (.int .u64 0) (.int .u64 0) (.int .u64 0) (.int .u64 0) (.int .u64 0) (.bool false) (.slice none 0 0) (.slice none 0 0) (.slice none 0 0) (.slice none 0 0) (.int .u64 0) (.int .u64 0) (.I 0) (.string (⟨#[]⟩)) (.I 0) (.slice none 0 0) (by rw [hlj1]; exact h22_hl) (fun e he => by rw [← he, hlj1]; exact h22_e ▸ (by decide))) ?_
          rintro _ w272 hE274 ⟨cs273, W280, e281, rfl, hr275, hl282⟩
          have H0s := H
          obtain ⟨s276, hs277⟩ : ∃ s_ : Shf, s_ = { sj1 with write := W280, done := e281 } := ⟨_, rfl⟩
          rw [← hs277] at hr275
          have hlaw278 : s276 = mwriteR sj1 2 h22m.head true := hs277.trans (mwriteR_eq hl282)
          rw [show e281 = s276.done by rw [hs277]]
          obtain ⟨a006o283, k006o283, a03o283, k03o283, a04o283, k04o283, a1o283, k1o283, a33o283, k33o283, a34o283, k34o283, a35o283, k35o283, a36o283, k36o283, rfl, hBo283, H⟩ := addShf H hE274 hr275
          unfold shB wrB rdB at hBo283
          have hso283 := hBo283.1.1
          have hso283w := hBo283.2.2.1.1
          intro hS
          refine qHP hS 4 [(11, .seq), (12, .seq), (13, .qui), (14, .qui)] [(90, .agg (shfV s276 a006o283 k006o283 a03o283 k03o283 a04o283 k04o283 a1o283 k1o283 a33o283 k33o283 a34o283 k34o283 a35o283 k35o283 a36o283 k36o283).toArray), (91, .slice none 0 0), (92, .I s276.done)] ?_
          refine RH.chn hS ?_
          refine RW.newC (κ := .chn) (d := some 10) (r := []) (o := .cells (shfZ).toArray 118 (0, 0)) (v := fun b => .P b 0) (fun b => by as_aux_lemma => kernel_rfl) (nofun) H ?_
          intro b285 w286 hnw284 H
          have hnb287 := Nat.le_trans hS.size hnw284
          intro hS
          refine RH.sto ?_
          refine qWC 118 b285 0 [] (.agg (shfV s276 a006o283 k006o283 a03o283 k03o283 a04o283 k04o283 a1o283 k1o283 a33o283 k33o283 a34o283 k34o283 a35o283 k35o283 a36o283 k36o283).toArray) [(b285, .cells (shfV s276 a006o283 k006o283 a03o283 k03o283 a04o283 k04o283 a1o283 k1o283 a33o283 k33o283 a34o283 k34o283 a35o283 k35o283 a36o283 k36o283).toArray 118 (0, 0)), (bj1, .cells (shfV sj1 a006j1 k006j1 a03j1 k03j1 a04j1 k04j1 a1j1 k1j1 a33j1 k33j1 a34j1 k34j1 a35j1 k35j1 a36j1 k36j1).toArray 118 (0, 0)), (b32, .cells (shfV s29 a006o31 k006o31 a03o31 k03o31 a04o31 k04o31 a1o31 k1o31 a33o31 k33o31 a34o31 k34o31 a35o31 k35o31 a36o31 k36o31).toArray 118 (0, 0)), (b17, .cells (objV (objOf ([1#8, 2#8, 3#8] : List (BitVec 8)) 1) a6q10 k6q10).toArray 102 (0, 0))] H 0 rfl rfl ?_
          intro w289 hch288 H
          have hS290 := hS.sto hch288 (.inl hnb287)
          refine ⟨hS290, ?_⟩
          have hS := hS290
          refine RH.fin hS 2 [12] [(12, .I s276.done)] (by as_aux_lemma => kernel_rfl) ?_
          have H := H.pick [14, 15, 16, 17, 18, 20, 21, 22, 23, 24, 26, 27, 28, 29, 30, 31, 32, 33, 34, 35, 36, 37, 38, 39, 40, 41, 42, 43, 44, 45, 46, 47, 48, 49, 50, 51, 52] rfl
          have H := H.frontM 3 (M' := [(b17, .cells (objV (objOf ([1#8, 2#8, 3#8] : List (BitVec 8)) 1) a6q10 k6q10).toArray 102 (0, 0)), (b285, .cells (shfV s276 a006o283 k006o283 a03o283 k03o283 a04o283 k04o283 a1o283 k1o283 a33o283 k33o283 a34o283 k34o283 a35o283 k35o283 a36o283 k36o283).toArray 118 (0, 0)), (bj1, .cells (shfV sj1 a006j1 k006j1 a03j1 k03j1 a04j1 k04j1 a1j1 k1j1 a33j1 k33j1 a34j1 k34j1 a35j1 k35j1 a36j1 k36j1).toArray 118 (0, 0)), (b32, .cells (shfV s29 a006o31 k006o31 a03o31 k03o31 a04o31 k04o31 a1o31 k1o31 a33o31 k33o31 a34o31 k34o31 a35o31 k35o31 a36o31 k36o31).toArray 118 (0, 0))]) rfl
          have H := H.frontM 3 (M' := [(b32, .cells (shfV s29 a006o31 k006o31 a03o31 k03o31 a04o31 k04o31 a1o31 k1o31 a33o31 k33o31 a34o31 k34o31 a35o31 k35o31 a36o31 k36o31).toArray 118 (0, 0)), (b17, .cells (objV (objOf ([1#8, 2#8, 3#8] : List (BitVec 8)) 1) a6q10 k6q10).toArray 102 (0, 0)), (b285, .cells (shfV s276 a006o283 k006o283 a03o283 k03o283 a04o283 k04o283 a1o283 k1o283 a33o283 k33o283 a34o283 k34o283 a35o283 k35o283 a36o283 k36o283).toArray 118 (0, 0)), (bj1, .cells (shfV sj1 a006j1 k006j1 a03j1 k03j1 a04j1 k04j1 a1j1 k1j1 a33j1 k33j1 a34j1 k34j1 a35j1 k35j1 a36j1 k36j1).toArray 118 (0, 0))]) rfl
          have H := H.frontM 3 (M' := [(bj1, .cells (shfV sj1 a006j1 k006j1 a03j1 k03j1 a04j1 k04j1 a1j1 k1j1 a33j1 k33j1 a34j1 k34j1 a35j1 k35j1 a36j1 k36j1).toArray 118 (0, 0)), (b32, .cells (shfV s29 a006o31 k006o31 a03o31 k03o31 a04o31 k04o31 a1o31 k1o31 a33o31 k33o31 a34o31 k34o31 a35o31 k35o31 a36o31 k36o31).toArray 118 (0, 0)), (b17, .cells (objV (objOf ([1#8, 2#8, 3#8] : List (BitVec 8)) 1) a6q10 k6q10).toArray 102 (0, 0)), (b285, .cells (shfV s276 a006o283 k006o283 a03o283 k03o283 a04o283 k04o283 a1o283 k1o283 a33o283 k33o283 a34o283 k34o283 a35o283 k35o283 a36o283 k36o283).toArray 118 (0, 0))]) rfl
          have H := H.drop (M' := [(bj1, .cells (shfV sj1 a006j1 k006j1 a03j1 k03j1 a04j1 k04j1 a1j1 k1j1 a33j1 k33j1 a34j1 k34j1 a35j1 k35j1 a36j1 k36j1).toArray 118 (0, 0)), (b32, .cells (shfV s29 a006o31 k006o31 a03o31 k03o31 a04o31 k04o31 a1o31 k1o31 a33o31 k33o31 a34o31 k34o31 a35o31 k35o31 a36o31 k36o31).toArray 118 (0, 0)), (b17, .cells (objV (objOf ([1#8, 2#8, 3#8] : List (BitVec 8)) 1) a6q10 k6q10).toArray 102 (0, 0))]) (W' := []) (by repeat (first | exact List.Sublist.refl _ | exact List.nil_sublist _ | apply List.Sublist.cons_cons | apply List.Sublist.cons)) (by repeat (first | exact List.Sublist.refl _ | exact List.nil_sublist _ | apply List.Sublist.cons_cons | apply List.Sublist.cons))
          exact hJ231 (s276) _ ⟨H, hlaw278.trans (by rw [hlj1])⟩
         ·
          refine RG.leaf' [(11, .seq), (6, .seq), (7, .qui), (8, .qui), (9, .qui), (10, .qui), (12, .seq), (13, .qui), (14, .qui)] (by as_aux_lemma => kernel_rfl) ?_
          have Hr := H
          refine RH.chn hS ?_
          refine RW.newC (κ := .chn) (d := some 10) (r := []) (o := .cells (shfZ).toArray 118 (0, 0)) (v := fun b => .P b 0) (fun b => by as_aux_lemma => kernel_rfl) (nofun) H ?_
          intro b292 w293 hnw291 H
          have hnb294 := Nat.le_trans hS.size hnw291
          intro hS
          refine RH.chn hS ?_
          refine qK .chn (some 89) [] 54 #[.agg (shfV sj1 a006j1 k006j1 a03j1 k03j1 a04j1 k04j1 a1j1 k1j1 a33j1 k33j1 a34j1 k34j1 a35j1 k35j1 a36j1 k36j1).toArray, .agg #[.I 10, .I 2, .I 0, .int .u64 0, .int .u64 0, .int .u64 0, .int .u64 0, .int .u64 0, .bool true, .bool false, .slice none 0 0, .slice none 0 0, .slice none 0 0, .int .u64 h22m.head.id.version, .I h22m.head.id.index, .int .u64 h22m.head.id.epoch, .I h22m.head.kk, .I h22m.head.nn, .I h22m.head.size, .int .u32 ((h22m.head.sum.toNat : Nat) : Int), .slice none 0 0, .int .u64 0, .int .u64 0, .I 0, .string (⟨#[]⟩), .I 0, .slice none 0 0]] (mgot_ready (s := sj1) (shf_mk (y0 := sj1.read) (y3 := sj1.write) (rd_mkB (by unfold rdB; omega) (H.rp 19 rfl) (H.rp 20 rfl) (H.rp 21 rfl)) (H.rp 22 rfl) u64a (wr_mkV u64a u64a ⟨rfl, hsj1w⟩ (H.rp 23 rfl) (H.rp 24 rfl) (H.rp 25 rfl) (H.rp 26 rfl) i64a i64a i64a) Shape.bool_mk i64a) (by rw [hlj1]; exact h22_d) (by rw [hlj1]; rfl) 2 h22m.head true (.I 0) (.int .u64 0) (.int .u64 0) (.int .u64 0) (.int .u64 0) (.int .u64 0) (.bool false) (.slice none 0 0) (.slice none 0 0) (.slice none 0 0) (.slice none 0 0) (.int .u64 0) (.int .u64 0) (.I 0) (.string (⟨#[]⟩)) (.I 0) (.slice none 0 0) (by rw [hlj1]; exact h22_hl) (fun e he => by rw [← he, hlj1]; exact h22_e ▸ (by decide))) ?_
          rintro _ w296 hE298 ⟨cs297, W304, e305, rfl, hr299, hl306⟩
          have H0s := H
          obtain ⟨s300, hs301⟩ : ∃ s_ : Shf, s_ = { sj1 with write := W304, done := e305 } := ⟨_, rfl⟩
          rw [← hs301] at hr299
          have hlaw302 : s300 = mwriteR sj1 2 h22m.head true := hs301.trans (mwriteR_eq hl306)
          rw [show e305 = s300.done by rw [hs301]]
          obtain ⟨a006o307, k006o307, a03o307, k03o307, a04o307, k04o307, a1o307, k1o307, a33o307, k33o307, a34o307, k34o307, a35o307, k35o307, a36o307, k36o307, rfl, hBo307, H⟩ := addShf H hE298 hr299
          unfold shB wrB rdB at hBo307
          have hso307 := hBo307.1.1
          have hso307w := hBo307.2.2.1.1
          intro hS
          refine qHP hS 4 [(12, .seq), (13, .qui), (14, .qui)] [(10, .P b292 0), (90, .agg (shfV s300 a006o307 k006o307 a03o307 k03o307 a04o307 k04o307 a1o307 k1o307 a33o307 k33o307 a34o307 k34o307 a35o307 k35o307 a36o307 k36o307).toArray), (91, .slice none 0 0), (92, .I s300.done)] ?_
          refine RH.sto ?_
          refine qWC 118 b292 0 [] (.agg (shfV s300 a006o307 k006o307 a03o307 k03o307 a04o307 k04o307 a1o307 k1o307 a33o307 k33o307 a34o307 k34o307 a35o307 k35o307 a36o307 k36o307).toArray) [(b292, .cells (shfV s300 a006o307 k006o307 a03o307 k03o307 a04o307 k04o307 a1o307 k1o307 a33o307 k33o307 a34o307 k34o307 a35o307 k35o307 a36o307 k36o307).toArray 118 (0, 0)), (bj1, .cells (shfV sj1 a006j1 k006j1 a03j1 k03j1 a04j1 k04j1 a1j1 k1j1 a33j1 k33j1 a34j1 k34j1 a35j1 k35j1 a36j1 k36j1).toArray 118 (0, 0)), (b32, .cells (shfV s29 a006o31 k006o31 a03o31 k03o31 a04o31 k04o31 a1o31 k1o31 a33o31 k33o31 a34o31 k34o31 a35o31 k35o31 a36o31 k36o31).toArray 118 (0, 0)), (b17, .cells (objV (objOf ([1#8, 2#8, 3#8] : List (BitVec 8)) 1) a6q10 k6q10).toArray 102 (0, 0))] H 0 rfl rfl ?_
          intro w309 hch308 H
          have hS310 := hS.sto hch308 (.inl hnb294)
          refine ⟨hS310, ?_⟩
          have hS := hS310
          refine RH.fin hS 2 [12] [(12, .I s300.done)] (by as_aux_lemma => kernel_rfl) ?_
          have H := H.pick [14, 15, 16, 17, 18, 20, 21, 22, 23, 24, 26, 27, 28, 29, 30, 31, 32, 33, 34, 35, 36, 37, 38, 39, 40, 41, 42, 43, 44, 45, 46, 47, 48, 49, 50, 51, 52] rfl
          have H := H.frontM 3 (M' := [(b17, .cells (objV (objOf ([1#8, 2#8, 3#8] : List (BitVec 8)) 1) a6q10 k6q10).toArray 102 (0, 0)), (b292, .cells (shfV s300 a006o307 k006o307 a03o307 k03o307 a04o307 k04o307 a1o307 k1o307 a33o307 k33o307 a34o307 k34o307 a35o307 k35o307 a36o307 k36o307).toArray 118 (0, 0)), (bj1, .cells (shfV sj1 a006j1 k006j1 a03j1 k03j1 a04j1 k04j1 a1j1 k1j1 a33j1 k33j1 a34j1 k34j1 a35j1 k35j1 a36j1 k36j1).toArray 118 (0, 0)), (b32, .cells (shfV s29 a006o31 k006o31 a03o31 k03o31 a04o31 k04o31 a1o31 k1o31 a33o31 k33o31 a34o31 k34o31 a35o31 k35o31 a36o31 k36o31).toArray 118 (0, 0))]) rfl
          have H := H.frontM 3 (M' := [(b32, .cells (shfV s29 a006o31 k006o31 a03o31 k03o31 a04o31 k04o31 a1o31 k1o31 a33o31 k33o31 a34o31 k34o31 a35o31 k35o31 a36o31 k36o31).toArray 118 (0, 0)), (b17, .cells (objV (objOf ([1#8, 2#8, 3#8] : List (BitVec 8)) 1) a6q10 k6q10).toArray 102 (0, 0)), (b292, .cells (shfV s300 a006o307 k006o307 a03o307 k03o307 a04o307 k04o307 a1o307 k1o307 a33o307 k33o307 a34o307 k34o307 a35o307 k35o307 a36o307 k36o307).toArray 118 (0, 0)), (bj1, .cells (shfV sj1 a006j1 k006j1 a03j1 k03j1 a04j1 k04j1 a1j1 k1j1 a33j1 k33j1 a34j1 k34j1 a35j1 k35j1 a36j1 k36j1).toArray 118 (0, 0))]) rfl
          have H := H.frontM 3 (M' := [(bj1, .cells (shfV sj1 a006j1 k006j1 a03j1 k03j1 a04j1 k04j1 a1j1 k1j1 a33j1 k33j1 a34j1 k34j1 a35j1 k35j1 a36j1 k36j1).toArray 118 (0, 0)), (b32, .cells (shfV s29 a006o31 k006o31 a03o31 k03o31 a04o31 k04o31 a1o31 k1o31 a33o31 k33o31 a34o31 k34o31 a35o31 k35o31 a36o31 k36o31).toArray 118 (0, 0)), (b17, .cells (objV (objOf ([1#8, 2#8, 3#8] : List (BitVec 8)) 1) a6q10 k6q10).toArray 102 (0, 0)), (b292, .cells (shfV s300 a006o307 k006o307 a03o307 k03o307 a04o307 k04o307 a1o307 k1o307 a33o307 k33o307 a34o307 k34o307 a35o307 k35o307 a36o307 k36o307).toArray 118 (0, 0))]) rfl
          have H := H.drop (M' := [(bj1, .cells (shfV sj1 a006j1 k006j1 a03j1 k03j1 a04j1 k04j1 a1j1 k1j1 a33j1 k33j1 a34j1 k34j1 a35j1 k35j1 a36j1 k36j1).toArray 118 (0, 0)), (b32, .cells (shfV s29 a006o31 k006o31 a03o31 k03o31 a04o31 k04o31 a1o31 k1o31 a33o31 k33o31 a34o31 k34o31 a35o31 k35o31 a36o31 k36o31).toArray 118 (0, 0)), (b17, .cells (objV (objOf ([1#8, 2#8, 3#8] : List (BitVec 8)) 1) a6q10 k6q10).toArray 102 (0, 0))]) (W' := []) (by repeat (first | exact List.Sublist.refl _ | exact List.nil_sublist _ | apply List.Sublist.cons_cons | apply List.Sublist.cons)) (by repeat (first | exact List.Sublist.refl _ | exact List.nil_sublist _ | apply List.Sublist.cons_cons | apply List.Sublist.cons))
          exact hJ231 (s300) _ ⟨H, hlaw302.trans (by rw [hlj1])⟩
        ·
         rintro sj2 w232 ⟨H, hlj2⟩
         refine qR 2 [.c [8]] [(0, .bool (sj2.done == 1))] ?_
         refine qT (.bool (sj2.done == 1)) Try.func51 ?_
         refine ⟨_, rfl, H.done, ?_⟩
         congr 1
         have e3 : sj2.done = 1 := by rw [hlj2]; exact h22_e
         simp [e3]
end Go.Proofs.Ytppcdmbkgficiaa
