import Derived.Test.YtppcdmbkgficiaaSV3
namespace Go.Proofs.Ytppcdmbkgficiaa
open Go.BX

set_option maxHeartbeats 2000000 in
theorem object22_ok {S : Nat → Prop} {w : World} {xs : List (BitVec 8)} {a : Option Addr} {c : Nat} (h : SB.rep S w [.slice a xs.length c] xs) {k n : Nat} (hs : xs.length ≤ 65536) (hk : 1 ≤ k) (hkn : k ≤ n) (hn : n ≤ 255) :
 Calls Try.prog 52 #[.slice a xs.length c, .I k, .I n] w (Ret fun v w' => Ext w w' ∧ ∃ (ds : List Value) (a : Option Addr) (c : Nat), v = .tuple #[.agg ds.toArray, .slice a (chksOf xs k n).length c, .bool true] ∧ objS.rep (Nw S w) w' ds (objOf xs n) ∧ (Shape.slice chkS).rep (Nw S w) w' [.slice a (chksOf xs k n).length c] (chksOf xs k n)) := by
 have hhl : (headsOf ⟨7, 0, 2⟩ xs.length k (enc xs k n)).length = (enc xs k n).length := headsOf_len
 refine qS (fn := Try.f52) (n := 82) (σ := [(0, .slice a xs.length c), (1, .I k), (2, .I n)]) Try.func52 ?_
 have H := Hp.startF (w := w) (S := S) (G := [Rp SB [.slice a xs.length c] xs]) (.rp h .nil)
 refine qR 1 [.c [0], .c [1]] [(0, .slice a xs.length c), (1, .I k), (2, .I n)] ?_
 refine qG (sq 0 3) ?_
 refine qB .seq 6 (sq 1 3) #[.string (⟨#[]⟩), .int .u64 0, .I 0, .int .u32 0, .I 0, .int .u64 0, .slice none 0 0] 102 H ?_
 intro b1 w2 H
 refine qF 2 [(0, .slice a xs.length c), (1, .I k), (2, .I n), (6, .P b1 0)] ?_
 refine qR 1 [.c [1, 0], .c [2]] [(0, .slice a xs.length c), (1, .I k), (2, .I n), (6, .P b1 0)] ?_
 refine qG (sq 0 9) ?_
 refine qP 3 (sq 3 9) [(0, .slice a xs.length c), (1, .I k), (2, .I n), (6, .P b1 0), (17, .slice a xs.length c), (18, .I k), (19, .I n)] ?_
 refine qK .seq (some 20) (sq 4 9) 29 #[.slice a xs.length c, .I k, .I n] (encode_ok (xs := xs) k n (H.rp 0 rfl) hs hk hkn hn) ?_
 rintro _ w3 hE6 ⟨a4, c5, rfl, hr7⟩
 have H := H.addN hE6 (F := Rp (Shape.slice SB) [.slice a4 (enc xs k n).length c5] (enc xs k n)) hr7
 have hel := enc_len (xs := xs) hkn
 refine qF 5 [(0, .slice a xs.length c), (1, .I k), (2, .I n), (6, .P b1 0), (9, .slice a4 (enc xs k n).length c5), (10, .I 0)] ?_
 refine qR 1 [.c [2, 0], .c [3]] [(0, .slice a xs.length c), (1, .I k), (2, .I n), (6, .P b1 0), (9, .slice a4 (enc xs k n).length c5), (10, .I 0)] ?_
 refine qG (sq 0 11) ?_
 refine qP 5 (sq 5 11) [(0, .slice a xs.length c), (2, .I n), (6, .P b1 0), (9, .slice a4 (enc xs k n).length c5), (10, .I 0), (24, .slice a4 (enc xs k n).length c5), (25, .agg #[.int .u64 7, .I 0, .int .u64 2]), (27, .I ((xs.length : Nat) : Int)), (28, .I k)] ?_
 refine qK .seq (some 29) (sq 6 11) 38 #[.slice a4 (enc xs k n).length c5, .agg #[.int .u64 7, .I 0, .int .u64 2], .I ((xs.length : Nat) : Int), .I k] (heads_ok (S := Av S w [] (idsOf [(b1, .cells #[.string (⟨#[]⟩), .int .u64 0, .I 0, .int .u32 0, .I 0, .int .u64 0, .slice none 0 0] 102 (0, 0))] [])) (cs := enc xs k n) (id := ⟨7, 0, 2⟩) xs.length k (H.rp 0 rfl) (cid_mk (Shape.int_mk (by decide)) (Shape.int_mk (by decide)) (Shape.int_mk (by decide))) (by omega) (by omega) (by omega) (by omega) (encD_all)) ?_
 rintro _ w8 hE11 ⟨a9, c10, rfl, hr12⟩
 have H := H.addN hE11 (F := Rp (Shape.slice hdrS) [.slice a9 ((headsOf (⟨7, 0, 2⟩) xs.length k (enc xs k n)).length) c10] (headsOf (⟨7, 0, 2⟩) xs.length k (enc xs k n))) hr12
 refine qF 5 [(0, .slice a xs.length c), (2, .I n), (6, .P b1 0), (9, .slice a4 (enc xs k n).length c5), (10, .I 0), (11, .slice a9 ((headsOf (⟨7, 0, 2⟩) xs.length k (enc xs k n)).length) c10), (12, .I 0)] ?_
 refine qR 1 [.c [3, 0], .c [4]] [(0, .slice a xs.length c), (2, .I n), (6, .P b1 0), (9, .slice a4 (enc xs k n).length c5), (10, .I 0), (11, .slice a9 ((headsOf (⟨7, 0, 2⟩) xs.length k (enc xs k n)).length) c10), (12, .I 0)] ?_
 refine qG (sq 0 7) ?_
 refine qP 3 (sq 3 7) [(2, .I n), (6, .P b1 0), (9, .slice a4 (enc xs k n).length c5), (10, .I 0), (11, .slice a9 ((headsOf (⟨7, 0, 2⟩) xs.length k (enc xs k n)).length) c10), (12, .I 0), (33, .I ((xs.length : Nat) : Int)), (34, .slice a xs.length c)] ?_
 refine qK .seq (some 35) (sq 4 7) 74 #[.slice a xs.length c] (crc_spec (H.rp 2 rfl)) ?_
 rintro _ w13 hE14 rfl
 have H := H.ext hE14
 refine qP 1 (sq 5 7) [(2, .I n), (6, .P b1 0), (9, .slice a4 (enc xs k n).length c5), (10, .I 0), (11, .slice a9 ((headsOf (⟨7, 0, 2⟩) xs.length k (enc xs k n)).length) c10), (12, .I 0), (36, .agg #[.string (⟨#[97]⟩), .int .u64 7, .I ((xs.length : Nat) : Int), .int .u32 (((crcF xs).toNat : Nat) : Int), .I 0, .int .u64 2, .slice none 0 0])] ?_
 refine qB .seq 13 (sq 6 7) #[.string (⟨#[]⟩), .int .u64 0, .I 0, .int .u32 0, .I 0, .int .u64 0, .slice none 0 0] 102 H ?_
 intro b15 w16 H
 refine qW 102 b15 0 (sq 7 7) (.agg #[.string (⟨#[97]⟩), .int .u64 7, .I ((xs.length : Nat) : Int), .int .u32 (((crcF xs).toNat : Nat) : Int), .I 0, .int .u64 2, .slice none 0 0]) [(b15, .cells #[.string (⟨#[97]⟩), .int .u64 7, .I ((xs.length : Nat) : Int), .int .u32 (((crcF xs).toNat : Nat) : Int), .I 0, .int .u64 2, .slice none 0 0] 102 (0, 0)), (b1, .cells #[.string (⟨#[]⟩), .int .u64 0, .I 0, .int .u32 0, .I 0, .int .u64 0, .slice none 0 0] 102 (0, 0))] H 0 rfl rfl ?_
 intro w17 H
 refine qF 0 [(2, .I n), (6, .P b1 0), (9, .slice a4 (enc xs k n).length c5), (10, .I 0), (11, .slice a9 ((headsOf (⟨7, 0, 2⟩) xs.length k (enc xs k n)).length) c10), (12, .I 0), (13, .P b15 0)] ?_
 refine qR 2 [.c [4, 0, 0], .c [4, 0, 1], .c [5]] [(2, .I n), (6, .P b1 0), (9, .slice a4 (enc xs k n).length c5), (10, .I 0), (11, .slice a9 ((headsOf (⟨7, 0, 2⟩) xs.length k (enc xs k n)).length) c10), (12, .I 0), (13, .P b15 0)] ?_
 refine qG (sq 0 18) ?_
 refine qP 13 (sq 13 18) [(2, .I n), (6, .P b1 0), (9, .slice a4 (enc xs k n).length c5), (11, .slice a9 ((headsOf (⟨7, 0, 2⟩) xs.length k (enc xs k n)).length) c10), (13, .P b15 0), (49, .bool ((((enc xs k n).length : Nat) : Int) != (n : Int)))] ?_
 refine tN (fun b_ => [(2, .I n), (6, .P b1 0), (9, .slice a4 (enc xs k n).length c5), (11, .slice a9 ((headsOf (⟨7, 0, 2⟩) xs.length k (enc xs k n)).length) c10), (13, .P b15 0), (49, .bool b_)]) (((enc xs k n).length : Nat) : Int) (n : Int) (fun h18 => ?_) (fun h18 => ?_)
 ·
  omega
 ·
  refine qF 5 [(2, .I n), (6, .P b1 0), (9, .slice a4 (enc xs k n).length c5), (11, .slice a9 ((headsOf (⟨7, 0, 2⟩) xs.length k (enc xs k n)).length) c10), (13, .P b15 0), (54, .bool ((((headsOf (⟨7, 0, 2⟩) xs.length k (enc xs k n)).length : Nat) : Int) != (n : Int)))] ?_
  refine qN (((headsOf (⟨7, 0, 2⟩) xs.length k (enc xs k n)).length : Nat) : Int) (n : Int) (fun h19 => ?_) (fun h19 => ?_)
  ·
   omega
  ·
   refine qR 7 [.c [6, 0, 1, 0], .b 0, .c [7]] [(2, .I n), (6, .P b1 0), (9, .slice a4 (enc xs k n).length c5), (11, .slice a9 ((headsOf (⟨7, 0, 2⟩) xs.length k (enc xs k n)).length) c10), (13, .P b15 0), (14, .slice none 0 0), (15, .I 0)] ?_
   have H := (H.ownNil chkS 92).ownNil (Shape.int .i64) 3
   have H : Hp w S [] [(b15, .cells #[.string (⟨#[97]⟩), .int .u64 7, .I ((xs.length : Nat) : Int), .int .u32 (((crcF xs).toNat : Nat) : Int), .I 0, .int .u64 2, .slice none 0 0] 102 (0, 0)), (b1, .cells #[.string (⟨#[]⟩), .int .u64 0, .I 0, .int .u32 0, .I 0, .int .u64 0, .slice none 0 0] 102 (0, 0))] [⟨Shape.int .i64, 3, .slice none (nodesTo 0).length 0, nodesTo 0⟩, ⟨chkS, 92, .slice none (((chksOf xs k n).take 0).length) 0, (chksOf xs k n).take 0⟩] [Rp (Shape.slice hdrS) [.slice a9 ((headsOf (⟨7, 0, 2⟩) xs.length k (enc xs k n)).length) c10] (headsOf (⟨7, 0, 2⟩) xs.length k (enc xs k n)), Rp (Shape.slice SB) [.slice a4 (enc xs k n).length c5] (enc xs k n), Rp SB [.slice a xs.length c] xs] w17 := H
   have H := H.pick [0, 1] rfl
   have H := H.drop (M' := [(b15, .cells #[.string (⟨#[97]⟩), .int .u64 7, .I ((xs.length : Nat) : Int), .int .u32 (((crcF xs).toNat : Nat) : Int), .I 0, .int .u64 2, .slice none (nodesTo 0).length 0] 102 (0, 0)), (b1, .cells #[.string (⟨#[]⟩), .int .u64 0, .I 0, .int .u32 0, .I 0, .int .u64 0, .slice none 0 0] 102 (0, 0))]) (W' := [⟨Shape.int .i64, 3, .slice none (nodesTo 0).length 0, nodesTo 0⟩, ⟨chkS, 92, .slice none (((chksOf xs k n).take 0).length) 0, (chksOf xs k n).take 0⟩]) (by repeat (first | exact List.Sublist.refl _ | exact List.nil_sublist _ | apply List.Sublist.cons_cons | apply List.Sublist.cons)) (by repeat (first | exact List.Sublist.refl _ | exact List.nil_sublist _ | apply List.Sublist.cons_cons | apply List.Sublist.cons))
   refine WK.loop (α := Nat × Option Addr × Nat × Option Addr × Nat) (b := cd Try.prog 52 [6, 0, 1, 0, 0]) (by as_aux_lemma => kernel_rfl) (fun st_ => match st_ with | (i, ao, co, bo, do_) => [(2, .I n), (6, .P b1 0), (9, .slice a4 (enc xs k n).length c5), (11, .slice a9 ((headsOf (⟨7, 0, 2⟩) xs.length k (enc xs k n)).length) c10), (13, .P b15 0), (14, .slice bo (((chksOf xs k n).take i).length) do_), (15, .I i)]) (fun st_ w' => match st_ with | (i, ao, co, bo, do_) => Hp w S [] [(b15, .cells #[.string (⟨#[97]⟩), .int .u64 7, .I ((xs.length : Nat) : Int), .int .u32 (((crcF xs).toNat : Nat) : Int), .I 0, .int .u64 2, .slice ao (nodesTo i).length co] 102 (0, 0)), (b1, .cells #[.string (⟨#[]⟩), .int .u64 0, .I 0, .int .u32 0, .I 0, .int .u64 0, .slice none 0 0] 102 (0, 0))] [⟨Shape.int .i64, 3, .slice ao (nodesTo i).length co, nodesTo i⟩, ⟨chkS, 92, .slice bo (((chksOf xs k n).take i).length) do_, (chksOf xs k n).take i⟩] [Rp (Shape.slice hdrS) [.slice a9 ((headsOf (⟨7, 0, 2⟩) xs.length k (enc xs k n)).length) c10] (headsOf (⟨7, 0, 2⟩) xs.length k (enc xs k n)), Rp (Shape.slice SB) [.slice a4 (enc xs k n).length c5] (enc xs k n)] w' ∧ i ≤ n) (fun st_ => match st_ with | (i, ao, co, bo, do_) => n - i) (0, none, 0, none, 0) ⟨H, Nat.zero_le _⟩ (rfl) ?_
   rintro ⟨i, ao, co, bo, do_⟩ w21 ⟨H, hinv0⟩ hback20
   refine qR 3 [.c [6, 0, 1, 0, 0, 0, 1], .c [6, 0, 1, 0, 0, 1], .l [6, 0, 1, 0, 0], .b 0, .c [7]] [(2, .I n), (6, .P b1 0), (9, .slice a4 (enc xs k n).length c5), (11, .slice a9 ((headsOf (⟨7, 0, 2⟩) xs.length k (enc xs k n)).length) c10), (13, .P b15 0), (14, .slice bo (((chksOf xs k n).take i).length) do_), (15, .I i), (58, .bool (decide (((i : Int) : Int) < (n : Int))))] ?_
   refine qD (((i : Int) : Int) < (n : Int)) (fun h22 => ?_) (fun h22 => ?_)
   ·
    refine qR 4 [.c [6, 0, 1, 0, 0, 1, 0, 0, 0], .c [6, 0, 1, 0, 0, 1, 0, 0, 1], .b 1, .c [6, 0, 1, 0, 0, 2], .l [6, 0, 1, 0, 0], .b 0, .c [7]] [(2, .I n), (6, .P b1 0), (9, .slice a4 (enc xs k n).length c5), (11, .slice a9 ((headsOf (⟨7, 0, 2⟩) xs.length k (enc xs k n)).length) c10), (13, .P b15 0), (14, .slice bo (((chksOf xs k n).take i).length) do_), (15, .I i)] ?_
    refine qG (sq 0 8) ?_
    refine qP 1 (sq 1 8) [(2, .I n), (6, .P b1 0), (9, .slice a4 (enc xs k n).length c5), (11, .slice a9 ((headsOf (⟨7, 0, 2⟩) xs.length k (enc xs k n)).length) c10), (13, .P b15 0), (14, .slice bo (((chksOf xs k n).take i).length) do_), (15, .I i), (61, .P b15 6)] ?_
    refine qL .seq 62 (sq 2 8) 25 b15 6 6 (.slice ao (nodesTo i).length co) (H.cells 0 rfl) ?_
    refine qP 1 (sq 3 8) [(2, .I n), (6, .P b1 0), (9, .slice a4 (enc xs k n).length c5), (11, .slice a9 ((headsOf (⟨7, 0, 2⟩) xs.length k (enc xs k n)).length) c10), (13, .P b15 0), (14, .slice bo (((chksOf xs k n).take i).length) do_), (15, .I i), (62, .slice ao (nodesTo i).length co), (63, .I i)] ?_
    refine qI .seq 64 (sq 4 8) ((i : Int) + 1) ?_
    refine RW.new (κ := .seq) (d := some 65) (r := (sq 5 8)) (o := .cells #[.I ((i : Int) + 1)] 3 (0, 0)) (v := fun b => .slice (some ⟨b, 0, none⟩) 1 1) (fun b => by as_aux_lemma => kernel_rfl) (nofun) H ?_
    intro b23 w24 H
    have H := H.freeze 0 rfl (Shape.int .i64) ([(i : Int) + 1] : List Int) 1 (by simp [maxLen]) (by first | exact Nat.le_refl _ | simp) (EsP.cons (c := [.I ((i : Int) + 1)]) i64a EsP.nil)
    have H : Hp w S [] [(b15, .cells #[.string (⟨#[97]⟩), .int .u64 7, .I ((xs.length : Nat) : Int), .int .u32 (((crcF xs).toNat : Nat) : Int), .I 0, .int .u64 2, .slice ao (nodesTo i).length co] 102 (0, 0)), (b1, .cells #[.string (⟨#[]⟩), .int .u64 0, .I 0, .int .u32 0, .I 0, .int .u64 0, .slice none 0 0] 102 (0, 0))] [⟨Shape.int .i64, 3, .slice ao (nodesTo i).length co, nodesTo i⟩, ⟨chkS, 92, .slice bo (((chksOf xs k n).take i).length) do_, (chksOf xs k n).take i⟩] [Rp (Shape.slice (Shape.int .i64)) [.slice (some ⟨b23, 0, none⟩) 1 1] ([(i : Int) + 1] : List Int), Rp (Shape.slice hdrS) [.slice a9 ((headsOf (⟨7, 0, 2⟩) xs.length k (enc xs k n)).length) c10] (headsOf (⟨7, 0, 2⟩) xs.length k (enc xs k n)), Rp (Shape.slice SB) [.slice a4 (enc xs k n).length c5] (enc xs k n)] _ := H
    refine RW.appendW (d := some 66) (r := (sq 6 8)) (T := 25) (ty := 25) (e := 3) (m := 1) (by_ := 8) (v := .slice ao (nodesTo i).length co) (a2 := (some ⟨b23, 0, none⟩)) (l2 := 1) (c2 := 1) (zs := nodesTo (i + 1)) (by as_aux_lemma => kernel_rfl) (by as_aux_lemma => kernel_rfl) rfl H 0 rfl 0 rfl (nodesTo_snoc i) (by rw [nodesTo_len]; omega) ?_
    intro a25 c26 w28 H hc27
    have H : Hp w S [] [(b15, .cells #[.string (⟨#[97]⟩), .int .u64 7, .I ((xs.length : Nat) : Int), .int .u32 (((crcF xs).toNat : Nat) : Int), .I 0, .int .u64 2, .slice ao (nodesTo i).length co] 102 (0, 0)), (b1, .cells #[.string (⟨#[]⟩), .int .u64 0, .I 0, .int .u32 0, .I 0, .int .u64 0, .slice none 0 0] 102 (0, 0))] [⟨Shape.int .i64, 3, .slice a25 ((nodesTo (i + 1)).length) c26, nodesTo (i + 1)⟩, ⟨chkS, 92, .slice bo (((chksOf xs k n).take i).length) do_, (chksOf xs k n).take i⟩] [Rp (Shape.slice (Shape.int .i64)) [.slice (some ⟨b23, 0, none⟩) 1 1] ([(i : Int) + 1] : List Int), Rp (Shape.slice hdrS) [.slice a9 ((headsOf (⟨7, 0, 2⟩) xs.length k (enc xs k n)).length) c10] (headsOf (⟨7, 0, 2⟩) xs.length k (enc xs k n)), Rp (Shape.slice SB) [.slice a4 (enc xs k n).length c5] (enc xs k n)] _ := H
    refine qP 1 (sq 7 8) [(2, .I n), (6, .P b1 0), (9, .slice a4 (enc xs k n).length c5), (11, .slice a9 ((headsOf (⟨7, 0, 2⟩) xs.length k (enc xs k n)).length) c10), (13, .P b15 0), (14, .slice bo (((chksOf xs k n).take i).length) do_), (15, .I i), (66, .slice a25 ((nodesTo (i + 1)).length) c26), (67, .P b15 6)] ?_
    refine qW 25 b15 6 (sq 8 8) (.slice a25 ((nodesTo (i + 1)).length) c26) [(b15, .cells #[.string (⟨#[97]⟩), .int .u64 7, .I ((xs.length : Nat) : Int), .int .u32 (((crcF xs).toNat : Nat) : Int), .I 0, .int .u64 2, .slice a25 ((nodesTo (i + 1)).length) c26] 102 (0, 0)), (b1, .cells #[.string (⟨#[]⟩), .int .u64 0, .I 0, .int .u32 0, .I 0, .int .u64 0, .slice none 0 0] 102 (0, 0))] H 0 rfl rfl ?_
    intro w29 H
    refine qF 0 [(2, .I n), (6, .P b1 0), (9, .slice a4 (enc xs k n).length c5), (11, .slice a9 ((headsOf (⟨7, 0, 2⟩) xs.length k (enc xs k n)).length) c10), (13, .P b15 0), (14, .slice bo (((chksOf xs k n).take i).length) do_), (15, .I i)] ?_
    refine WK.draw1 11 [(0, .qui), (1, .qui), (2, .qui), (3, .qui), (4, .qui), (5, .qui), (6, .qui), (7, .qui), (8, .qui), (9, .qui), (10, .chn)] [(0, .qui), (1, .qui), (2, .qui), (3, .qui), (4, .qui), (5, .qui), (6, .qui), (7, .qui), (8, .qui), (9, .qui), (10, .chn), (11, .seq), (12, .seq)] Try_mixed (by as_aux_lemma => kernel_rfl) (by as_aux_lemma => kernel_rfl) (by as_aux_lemma => kernel_rfl) ?_
    have H := H.draw
    generalize ({ w29 with drawn := w29.drawn + 1 } : World) = w30 at H ⊢
    refine qP 3 [(3, .qui), (4, .qui), (5, .qui), (6, .qui), (7, .qui), (8, .qui), (9, .qui), (10, .chn), (11, .seq), (12, .seq)] [(2, .I n), (6, .P b1 0), (9, .slice a4 (enc xs k n).length c5), (11, .slice a9 ((headsOf (⟨7, 0, 2⟩) xs.length k (enc xs k n)).length) c10), (13, .P b15 0), (14, .slice bo (((chksOf xs k n).take i).length) do_), (15, .I i), (68, .slice bo (((chksOf xs k n).take i).length) do_), (69, .slice a9 ((headsOf (⟨7, 0, 2⟩) xs.length k (enc xs k n)).length) c10), (70, .I i)] ?_
    have hx31 : i < (headsOf (⟨7, 0, 2⟩) xs.length k (enc xs k n)).length := by omega
    refine qX .qui 71 [(4, .qui), (5, .qui), (6, .qui), (7, .qui), (8, .qui), (9, .qui), (10, .chn), (11, .seq), (12, .seq)] 28 53 (i : Int) hdrS (hdAt xs k n i) H 1 rfl i (by omega) (by rw [List.getElem?_eq_getElem (by omega), headsOf_at hkn (by omega)]) ?_
    intro b32 o33 es34 hr35 H
    obtain ⟨cs0q36, rfl, hf37, hf38, hf39, hf40⟩ := hdr_open hr35
    obtain ⟨rfl, hf42, hf43, hf44⟩ := cid_open hf37
    refine qL .qui 72 [(5, .qui), (6, .qui), (7, .qui), (8, .qui), (9, .qui), (10, .chn), (11, .seq), (12, .seq)] 53 b32 o33 0 (.agg (hdrV (hdAt xs k n i)).toArray) (H.fc 0 rfl) ?_
    refine qP 2 [(7, .qui), (8, .qui), (9, .qui), (10, .chn), (11, .seq), (12, .seq)] [(2, .I n), (6, .P b1 0), (9, .slice a4 (enc xs k n).length c5), (11, .slice a9 ((headsOf (⟨7, 0, 2⟩) xs.length k (enc xs k n)).length) c10), (13, .P b15 0), (14, .slice bo (((chksOf xs k n).take i).length) do_), (15, .I i), (68, .slice bo (((chksOf xs k n).take i).length) do_), (72, .agg (hdrV (hdAt xs k n i)).toArray), (73, .slice a4 (enc xs k n).length c5), (74, .I i)] ?_
    have hx45 : i < (enc xs k n).length := by omega
    refine qX .qui 75 [(8, .qui), (9, .qui), (10, .chn), (11, .seq), (12, .seq)] 29 23 (i : Int) SB (rowAt (enc xs k n) i) H 3 rfl i (by omega) (by rw [List.getElem?_eq_getElem (by omega), rowAt_eq (by omega)]) ?_
    intro b46 o47 es48 hr49 H
    obtain ⟨a50, k51, rfl⟩ := Shape.slice_form' hr49
    have H := H.add (F := Rp SB [.slice a50 ((rowAt (enc xs k n) i).length) k51] (rowAt (enc xs k n) i)) hr49
    refine qL .qui 76 [(9, .qui), (10, .chn), (11, .seq), (12, .seq)] 23 b46 o47 0 (.slice a50 ((rowAt (enc xs k n) i).length) k51) (H.fc 1 rfl) ?_
    refine qP 1 [(10, .chn), (11, .seq), (12, .seq)] [(2, .I n), (6, .P b1 0), (9, .slice a4 (enc xs k n).length c5), (11, .slice a9 ((headsOf (⟨7, 0, 2⟩) xs.length k (enc xs k n)).length) c10), (13, .P b15 0), (14, .slice bo (((chksOf xs k n).take i).length) do_), (15, .I i), (68, .slice bo (((chksOf xs k n).take i).length) do_), (77, .agg #[.int .u64 (((hdAt xs k n i).id).version), .I (((hdAt xs k n i).id).index), .int .u64 (((hdAt xs k n i).id).epoch), .I ((hdAt xs k n i).kk), .I ((hdAt xs k n i).nn), .I ((hdAt xs k n i).size), .int .u32 ((((hdAt xs k n i).sum).toNat : Nat) : Int), .slice a50 ((rowAt (enc xs k n) i).length) k51, .bool false])] ?_
    refine RW.new (κ := .chn) (d := some 78) (r := [(11, .seq), (12, .seq)]) (o := .cells #[.int .u64 (((hdAt xs k n i).id).version), .I (((hdAt xs k n i).id).index), .int .u64 (((hdAt xs k n i).id).epoch), .I ((hdAt xs k n i).kk), .I ((hdAt xs k n i).nn), .I ((hdAt xs k n i).size), .int .u32 ((((hdAt xs k n i).sum).toNat : Nat) : Int), .slice a50 ((rowAt (enc xs k n) i).length) k51, .bool false] 92 (0, 0)) (v := fun b => .slice (some ⟨b, 0, none⟩) 1 1) (fun b => by as_aux_lemma => kernel_rfl) (nofun) H ?_
    intro b52 w53 H
    have H := H.freeze 0 rfl chkS ([⟨⟨((hdAt xs k n i).id), (hdAt xs k n i).kk, (hdAt xs k n i).nn, (hdAt xs k n i).size, (hdAt xs k n i).sum⟩, (rowAt (enc xs k n) i), false⟩] : List Chk) 1 (by simp [maxLen]) (by first | exact Nat.le_refl _ | simp) (EsP.cons (c := [.int .u64 (((hdAt xs k n i).id).version), .I (((hdAt xs k n i).id).index), .int .u64 (((hdAt xs k n i).id).epoch), .I ((hdAt xs k n i).kk), .I ((hdAt xs k n i).nn), .I ((hdAt xs k n i).size), .int .u32 ((((hdAt xs k n i).sum).toNat : Nat) : Int), .slice a50 ((rowAt (enc xs k n) i).length) k51, .bool false]) (chk_mk (hdr_mk (cid_mk u64a i64a u64a) i64a i64a i64a Shape.bv_mk) (H.rp 0 rfl) Shape.bool_mk) EsP.nil)
    have H : Hp w S [] [(b15, .cells #[.string (⟨#[97]⟩), .int .u64 7, .I ((xs.length : Nat) : Int), .int .u32 (((crcF xs).toNat : Nat) : Int), .I 0, .int .u64 2, .slice a25 ((nodesTo (i + 1)).length) c26] 102 (0, 0)), (b1, .cells #[.string (⟨#[]⟩), .int .u64 0, .I 0, .int .u32 0, .I 0, .int .u64 0, .slice none 0 0] 102 (0, 0))] [⟨Shape.int .i64, 3, .slice a25 ((nodesTo (i + 1)).length) c26, nodesTo (i + 1)⟩, ⟨chkS, 92, .slice bo (((chksOf xs k n).take i).length) do_, (chksOf xs k n).take i⟩] [Rp (Shape.slice chkS) [.slice (some ⟨b52, 0, none⟩) 1 1] ([⟨⟨((hdAt xs k n i).id), (hdAt xs k n i).kk, (hdAt xs k n i).nn, (hdAt xs k n i).size, (hdAt xs k n i).sum⟩, (rowAt (enc xs k n) i), false⟩] : List Chk), Rp SB [.slice a50 ((rowAt (enc xs k n) i).length) k51] (rowAt (enc xs k n) i), Fc b46 o47 [.slice a50 ((rowAt (enc xs k n) i).length) k51], Fc b32 o33 (hdrV (hdAt xs k n i)), Rp (Shape.slice (Shape.int .i64)) [.slice (some ⟨b23, 0, none⟩) 1 1] ([(i : Int) + 1] : List Int), Rp (Shape.slice hdrS) [.slice a9 ((headsOf (⟨7, 0, 2⟩) xs.length k (enc xs k n)).length) c10] (headsOf (⟨7, 0, 2⟩) xs.length k (enc xs k n)), Rp (Shape.slice SB) [.slice a4 (enc xs k n).length c5] (enc xs k n)] _ := H
    refine RW.appendW (d := some 79) (r := [(12, .seq)]) (T := 103) (ty := 103) (e := 92) (m := 9) (by_ := 88) (v := .slice bo (((chksOf xs k n).take i).length) do_) (a2 := (some ⟨b52, 0, none⟩)) (l2 := 1) (c2 := 1) (zs := (chksOf xs k n).take (i + 1)) (by as_aux_lemma => kernel_rfl) (by as_aux_lemma => kernel_rfl) rfl H 1 rfl 0 rfl (chk_snoc (by omega) rfl) (by rw [List.length_take, chksOf_len]; omega) ?_
    intro a54 c55 w57 H hc56
    have H : Hp w S [] [(b15, .cells #[.string (⟨#[97]⟩), .int .u64 7, .I ((xs.length : Nat) : Int), .int .u32 (((crcF xs).toNat : Nat) : Int), .I 0, .int .u64 2, .slice a25 ((nodesTo (i + 1)).length) c26] 102 (0, 0)), (b1, .cells #[.string (⟨#[]⟩), .int .u64 0, .I 0, .int .u32 0, .I 0, .int .u64 0, .slice none 0 0] 102 (0, 0))] [⟨Shape.int .i64, 3, .slice a25 ((nodesTo (i + 1)).length) c26, nodesTo (i + 1)⟩, ⟨chkS, 92, .slice a54 (((chksOf xs k n).take (i + 1)).length) c55, (chksOf xs k n).take (i + 1)⟩] [Rp (Shape.slice chkS) [.slice (some ⟨b52, 0, none⟩) 1 1] ([⟨⟨((hdAt xs k n i).id), (hdAt xs k n i).kk, (hdAt xs k n i).nn, (hdAt xs k n i).size, (hdAt xs k n i).sum⟩, (rowAt (enc xs k n) i), false⟩] : List Chk), Rp SB [.slice a50 ((rowAt (enc xs k n) i).length) k51] (rowAt (enc xs k n) i), Fc b46 o47 [.slice a50 ((rowAt (enc xs k n) i).length) k51], Fc b32 o33 (hdrV (hdAt xs k n i)), Rp (Shape.slice (Shape.int .i64)) [.slice (some ⟨b23, 0, none⟩) 1 1] ([(i : Int) + 1] : List Int), Rp (Shape.slice hdrS) [.slice a9 ((headsOf (⟨7, 0, 2⟩) xs.length k (enc xs k n)).length) c10] (headsOf (⟨7, 0, 2⟩) xs.length k (enc xs k n)), Rp (Shape.slice SB) [.slice a4 (enc xs k n).length c5] (enc xs k n)] _ := H
    refine qF 1 [(2, .I n), (6, .P b1 0), (9, .slice a4 (enc xs k n).length c5), (11, .slice a9 ((headsOf (⟨7, 0, 2⟩) xs.length k (enc xs k n)).length) c10), (13, .P b15 0), (14, .slice a54 (((chksOf xs k n).take (i + 1)).length) c55), (15, .I i)] ?_
    refine qR 1 [.c [6, 0, 1, 0, 0, 2], .l [6, 0, 1, 0, 0], .b 0, .c [7]] [(2, .I n), (6, .P b1 0), (9, .slice a4 (enc xs k n).length c5), (11, .slice a9 ((headsOf (⟨7, 0, 2⟩) xs.length k (enc xs k n)).length) c10), (13, .P b15 0), (14, .slice a54 (((chksOf xs k n).take (i + 1)).length) c55), (15, .I i)] ?_
    refine qG (sq 0 3) ?_
    refine qP 1 (sq 1 3) [(2, .I n), (6, .P b1 0), (9, .slice a4 (enc xs k n).length c5), (11, .slice a9 ((headsOf (⟨7, 0, 2⟩) xs.length k (enc xs k n)).length) c10), (13, .P b15 0), (14, .slice a54 (((chksOf xs k n).take (i + 1)).length) c55), (15, .I i), (59, .I i)] ?_
    refine qI .seq 60 (sq 2 3) ((i : Int) + 1) ?_
    refine qF 1 [(2, .I n), (6, .P b1 0), (9, .slice a4 (enc xs k n).length c5), (11, .slice a9 ((headsOf (⟨7, 0, 2⟩) xs.length k (enc xs k n)).length) c10), (13, .P b15 0), (14, .slice a54 (((chksOf xs k n).take (i + 1)).length) c55), (15, .I ((i : Int) + 1))] ?_
    have H := H.pick [5, 6] rfl
    exact WK.back (hback20 (i + 1, a25, c26, a54, c55) _ ⟨H, by omega⟩ (by first | omega | (simp only []; omega))) (by as_aux_lemma => kernel_rfl)
   ·
    refine qR 2 [.c [7, 0], .c [8]] [(6, .P b1 0), (13, .P b15 0), (14, .slice bo (((chksOf xs k n).take i).length) do_)] ?_
    refine qG (sq 0 5) ?_
    refine qL .seq 80 (sq 1 5) 102 b15 0 0 (.agg #[.string (⟨#[97]⟩), .int .u64 7, .I ((xs.length : Nat) : Int), .int .u32 (((crcF xs).toNat : Nat) : Int), .I 0, .int .u64 2, .slice ao (nodesTo i).length co]) (H.cells 0 rfl) ?_
    refine qP 1 (sq 2 5) [(6, .P b1 0), (80, .agg #[.string (⟨#[97]⟩), .int .u64 7, .I ((xs.length : Nat) : Int), .int .u32 (((crcF xs).toNat : Nat) : Int), .I 0, .int .u64 2, .slice ao (nodesTo i).length co]), (81, .slice bo (((chksOf xs k n).take i).length) do_)] ?_
    refine qW 102 b1 0 (sq 3 5) (.agg #[.string (⟨#[97]⟩), .int .u64 7, .I ((xs.length : Nat) : Int), .int .u32 (((crcF xs).toNat : Nat) : Int), .I 0, .int .u64 2, .slice ao (nodesTo i).length co]) [(b15, .cells #[.string (⟨#[97]⟩), .int .u64 7, .I ((xs.length : Nat) : Int), .int .u32 (((crcF xs).toNat : Nat) : Int), .I 0, .int .u64 2, .slice ao (nodesTo i).length co] 102 (0, 0)), (b1, .cells #[.string (⟨#[97]⟩), .int .u64 7, .I ((xs.length : Nat) : Int), .int .u32 (((crcF xs).toNat : Nat) : Int), .I 0, .int .u64 2, .slice ao (nodesTo i).length co] 102 (0, 0))] H 1 rfl rfl ?_
    intro w58 H
    refine qF 2 [(6, .P b1 0), (7, .slice bo (((chksOf xs k n).take i).length) do_), (8, .bool true)] ?_
    refine qRB (.tuple #[.agg #[.string (⟨#[97]⟩), .int .u64 7, .I ((xs.length : Nat) : Int), .int .u32 (((crcF xs).toNat : Nat) : Int), .I 0, .int .u64 2, .slice ao (nodesTo i).length co], .slice bo (((chksOf xs k n).take i).length) do_, .bool true]) Try.func52 (v3 (.cell 6 102) (.tmp 7) (.tmp 8) (vC (H.cells 1 rfl)) vT vT) ?_
    have H : Hp w S [] [(b15, .cells #[.string (⟨#[97]⟩), .int .u64 7, .I ((xs.length : Nat) : Int), .int .u32 (((crcF xs).toNat : Nat) : Int), .I 0, .int .u64 2, .slice ao (nodesTo i).length co] 102 (0, 0)), (b1, .cells #[.string (⟨#[97]⟩), .int .u64 7, .I ((xs.length : Nat) : Int), .int .u32 (((crcF xs).toNat : Nat) : Int), .I 0, .int .u64 2, .slice ao (nodesTo i).length co] 102 (0, 0))] [⟨chkS, 92, .slice bo (((chksOf xs k n).take i).length) do_, (chksOf xs k n).take i⟩] [Rp (Shape.slice (Shape.int .i64)) [.slice ao (nodesTo i).length co] (nodesTo i), Rp (Shape.slice hdrS) [.slice a9 ((headsOf (⟨7, 0, 2⟩) xs.length k (enc xs k n)).length) c10] (headsOf (⟨7, 0, 2⟩) xs.length k (enc xs k n)), Rp (Shape.slice SB) [.slice a4 (enc xs k n).length c5] (enc xs k n)] _ := H.freezeW 0 rfl
    have H : Hp w S [] [(b15, .cells #[.string (⟨#[97]⟩), .int .u64 7, .I ((xs.length : Nat) : Int), .int .u32 (((crcF xs).toNat : Nat) : Int), .I 0, .int .u64 2, .slice ao (nodesTo i).length co] 102 (0, 0)), (b1, .cells #[.string (⟨#[97]⟩), .int .u64 7, .I ((xs.length : Nat) : Int), .int .u32 (((crcF xs).toNat : Nat) : Int), .I 0, .int .u64 2, .slice ao (nodesTo i).length co] 102 (0, 0))] [] [Rp (Shape.slice chkS) [.slice bo (((chksOf xs k n).take i).length) do_] ((chksOf xs k n).take i), Rp (Shape.slice (Shape.int .i64)) [.slice ao (nodesTo i).length co] (nodesTo i), Rp (Shape.slice hdrS) [.slice a9 ((headsOf (⟨7, 0, 2⟩) xs.length k (enc xs k n)).length) c10] (headsOf (⟨7, 0, 2⟩) xs.length k (enc xs k n)), Rp (Shape.slice SB) [.slice a4 (enc xs k n).length c5] (enc xs k n)] _ := H.freezeW 0 rfl
    have hie : i = n := by omega
    subst hie
    have hte : (chksOf xs k i).take i = chksOf xs k i := List.take_of_length_le (by rw [chksOf_len]; exact Nat.le_refl _)
    rw [hte] at H ⊢
    exact ⟨_, rfl, H.done, [.string (⟨#[97]⟩), .int .u64 7, .I ((xs.length : Nat) : Int), .int .u32 (((crcF xs).toNat : Nat) : Int), .I 0, .int .u64 2, .slice ao (nodesTo i).length co], _, _, rfl, H.out (obj_mk (y0 := ⟨#[97]⟩) (y1 := 7) (y2 := ((xs.length : Nat) : Int)) (y3 := crcF xs) (y4 := 0) (y5 := 2) (y6 := nodesTo i) ⟨rfl, by first | assumption | (simp [maxLen]; done) | decide⟩ (Shape.int_mk (by decide)) i64a Shape.bv_mk (Shape.int_mk (by decide)) (Shape.int_mk (by decide)) (H.rp 1 rfl)), H.out (H.rp 0 rfl)⟩

/-! refusals alone -/
structure Bv (xs : List (BitVec 8)) (k n : Nat) (O : ObjD) (f : Nat → Nat) (r : Rd) (x : Nat) : Prop where
 of : RdOf xs k n r
 ob : r.object = O
 ps : r.pieces = []
 bad : r.bad = (List.range x).map fun j => ((f j : Nat) : Int)
 ll : leftTo r.bad n + x = n
 dn : r.done = if n < k + x then 2 else 0
theorem Bv.len {xs : List (BitVec 8)} {k n : Nat} {O : ObjD} {f : Nat → Nat} {r : Rd} {x : Nat} (h : Bv xs k n O f r x) : r.bad.length = x := by
 rw [h.bad]
 simp
theorem Bv.step {xs : List (BitVec 8)} {k n : Nat} {O : ObjD} {f : Nat → Nat} {r : Rd} {x : Nat} (h : Bv xs k n O f r x) (hx : k + x ≤ n) (hf : f x < n) (hne : ∀ j < x, f j ≠ f x) {frm : Int} {hd : Hdr} {dt : List (BitVec 8)} (hh : hitR r frm hd (f x) = true) : Bv xs k n O f (gotR r frm hd dt false) (x + 1) := by
 have hk := h.of.hk
 have hnb : ¬ ((f x : Nat) : Int) ∈ r.bad := by
  rw [h.bad]
  intro hm
  obtain ⟨j, hj, e⟩ := List.mem_map.1 hm
  exact hne j (List.mem_range.1 hj) (Int.ofNat.inj e)
 have ho : openR r ((f x : Nat) : Int) = true := openR_iff.2 ⟨hnb, by rw [h.ps]; simp⟩
 have hg : ¬ goodR r (f x) hd dt false := fun q => absurd q.1 (by decide)
 rw [gotR_at (waits_of h.of (by rw [h.dn, if_neg (by omega)])) hh, if_pos ho]
 unfold stepR
 rw [if_neg hg]
 have hla : leftTo (r.bad ++ [((f x : Nat) : Int)]) n + 1 = leftTo r.bad n := by
  have := leftTo_add hnb n
  rwa [if_pos hf] at this
 have hll := h.ll
 refine ⟨{ h.of with }, h.ob, h.ps, ?_, ?_, ?_⟩
 · show r.bad ++ [_] = _
   rw [h.bad, List.range_succ, List.map_append]; rfl
 · show leftTo (r.bad ++ [((f x : Nat) : Int)]) n + (x + 1) = n
   omega
 · show judgeR (badR r (f x)) = _
   unfold judgeR
   have e1 : ((badR r (f x)).pieces.length : Int) = 0 := by
    show ((r.pieces).length : Int) = _
    rw [h.ps]; rfl
   have e2 : leftTo (badR r (f x)).bad (badR r (f x)).nn.toNat = leftTo (r.bad ++ [((f x : Nat) : Int)]) n := by
    show leftTo (r.bad ++ [((f x : Nat) : Int)]) r.nn.toNat = _
    rw [h.of.nn]; rfl
   have e3 : (badR r (f x)).kk = (k : Int) := h.of.kk
   rw [e1, e2, e3, if_neg (by omega)]
   by_cases hl2 : n < k + (x + 1)
   · rw [if_pos (by omega), if_pos hl2]
   · rw [if_neg (by omega), if_neg hl2]
theorem Bv.begin {xs : List (BitVec 8)} {k n : Nat} {limit : Int} (f : Nat → Nat) (hk : 1 ≤ k) (hkn : k ≤ n) (hn : n ≤ 255) (hs : xs.length ≤ 65536) : Bv xs k n (objOf xs n) f (beginR (objOf xs n) (k : Int) (n : Int) limit) 0 :=
 ⟨RdOf.begin hk hkn hn hs, rfl, rfl, rfl, leftTo_none n, by rw [if_neg (by omega)]; rfl⟩
def tAt (s0 n x : Nat) : Nat := (s0 + x) % n
theorem tAt_lt {s0 n x : Nat} (hn : 0 < n) : tAt s0 n x < n := Nat.mod_lt _ hn
theorem mod_two {a n : Nat} (h : a < 2 * n) : a % n = if a < n then a else a - n := by
 by_cases h1 : a < n
 · rw [if_pos h1, Nat.mod_eq_of_lt h1]
 · rw [if_neg h1, Nat.mod_eq_sub_mod (by omega), Nat.mod_eq_of_lt (by omega)]
theorem tAt_ne {s0 n x : Nat} (h0 : s0 < n) (hx : x < n) : ∀ j < x, tAt s0 n j ≠ tAt s0 n x := by
 intro j hj
 unfold tAt
 rw [mod_two (by omega), mod_two (by omega)]
 split <;> split <;> omega
/-- what a message makes of a shift that reads on -/
def mstepR (s : Shf) (frm : Int) (hd : Hdr) (dt : List (BitVec 8)) (ok : Bool) : Shf := { s with read := gotR s.read frm hd dt ok, done := if (gotR s.read frm hd dt ok).done = 2 then (gotR s.read frm hd dt ok).done else s.done }
def mdoneR (s : Shf) (frm : Int) (hd : Hdr) (dt : List (BitVec 8)) (ok : Bool) (xs : List (BitVec 8)) (k n : Nat) : Shf := { mstepR s frm hd dt ok with write := wrOf (gotR s.read frm hd dt ok) s.to s.epoch xs k n, ready := true }
/-- a shift to which chunks are refused -/
structure Fv (xs : List (BitVec 8)) (k n : Nat) (f : Nat → Nat) (s : Shf) (x : Nat) : Prop where
 rd : Bv xs k n (objOf xs n) f s.read x
 rb : rdB s.read
 dn : s.done = s.read.done
 ry : s.ready = false
 to : s.to.length = n
 ep : s.epoch = 3
 wr : s.write = wrZero
theorem Fv.step {xs : List (BitVec 8)} {k n : Nat} {f : Nat → Nat} {s s2 : Shf} {x z : Nat} (h : Fv xs k n f s x) (hx : k + x ≤ n) (hf : f x < n) (hne : ∀ j < x, f j ≠ f x) (hz : z = f x) {hd : Hdr} {dt : List (BitVec 8)} (hhd : hd.id = (hdAt xs k n z).id) (e : s2 = mstepR s ((z : Int) + 1) hd dt false) : Fv xs k n f s2 (x + 1) := by
 subst hz e
 have hb := h.rd.step (dt := dt) hx hf hne (hit_own h.rd.ob hf hhd)
 refine ⟨hb, rdB_got h.rb, ?_, h.ry, h.to, h.ep, h.wr⟩
 show (if (gotR s.read _ hd dt false).done = 2 then (gotR s.read _ hd dt false).done else s.done) = (gotR s.read _ hd dt false).done
 rw [hb.dn, h.dn, h.rd.dn, if_neg (show ¬ n < k + x by omega)]
 by_cases h2 : n < k + (x + 1)
 · rw [if_pos h2]; rfl
 · rw [if_neg h2]; rfl
theorem Fv.begin {xs : List (BitVec 8)} {k n : Nat} {to : List Int} (f : Nat → Nat) (hk : 1 ≤ k) (hkn : k ≤ n) (hn : n ≤ 255) (hs : xs.length ≤ 65536) (hto : to.length = n) : Fv xs k n f (mbegR (objOf xs n) (k : Int) (n : Int) to 3 100) 0 :=
 ⟨Bv.begin f hk hkn hn hs, rdB_begin hk hkn hn hs, rfl, rfl, hto, rfl, rfl⟩
theorem Fv.d0 {xs : List (BitVec 8)} {k n : Nat} {f : Nat → Nat} {s : Shf} {x : Nat} (h : Fv xs k n f s x) (hx : k + x ≤ n) : s.done = 0 := by
 rw [h.dn, h.rd.dn, if_neg (by omega)]
theorem Fv.dl {xs : List (BitVec 8)} {k n : Nat} {f : Nat → Nat} {s : Shf} {x : Nat} (h : Fv xs k n f s x) : s.done = if n < k + x then 2 else 0 := h.dn.trans h.rd.dn
theorem Fv.ne {xs : List (BitVec 8)} {k n : Nat} {f : Nat → Nat} {s : Shf} {x : Nat} (h : Fv xs k n f s x) (hx : k + x ≤ n) (hf : f x < n) (hne : ∀ j < x, f j ≠ f x) {hd : Hdr} {dt : List (BitVec 8)} (hhd : hd.id = (hdAt xs k n (f x)).id) : (gotR s.read (((f x : Nat) : Int) + 1) hd dt false).done ≠ 1 := by
 rw [(h.rd.step (dt := dt) hx hf hne (hit_own h.rd.ob hf hhd)).dn]
 split <;> decide
theorem fails_v {d : Int} {k n x : Nat} (hd : d = if n < k + (x + 1) then 2 else 0) (h : k + x ≤ n) : (d == 2) = ((x : Int) == (n : Int) - (k : Int)) := by
 rw [hd]
 by_cases h1 : n < k + (x + 1)
 · rw [if_pos h1, beq_iff_eq.2 (show (x : Int) = (n : Int) - (k : Int) by omega)]; rfl
 · rw [if_neg h1, beq_eq_false_iff_ne.2 (show (x : Int) ≠ (n : Int) - (k : Int) by omega)]; rfl

def wrB (W : Wr) : Prop := W.key.size ≤ maxLen ∧ (0 ≤ W.client ∧ W.client ≤ 18446744073709551615) ∧ (0 ≤ W.seq ∧ W.seq ≤ 18446744073709551615) ∧ (-9223372036854775808 ≤ W.waited ∧ W.waited ≤ 9223372036854775807) ∧ (-9223372036854775808 ≤ W.limit ∧ W.limit ≤ 9223372036854775807) ∧ (-9223372036854775808 ≤ W.done ∧ W.done ≤ 9223372036854775807)
def shB (s : Shf) : Prop := rdB s.read ∧ (0 ≤ s.epoch ∧ s.epoch ≤ 18446744073709551615) ∧ wrB s.write ∧ (-9223372036854775808 ≤ s.done ∧ s.done ≤ 9223372036854775807)
def mwriteR (s : Shf) (frm : Int) (hd : Hdr) (ok : Bool) : Shf := { s with write := (gotOf s.write 10 frm hd ok).1, done := (gotOf s.write 10 frm hd ok).2 }
theorem mwriteR_eq {s : Shf} {frm : Int} {hd : Hdr} {ok : Bool} {W : Wr} {e : Int} (h : (W, e) = gotOf s.write 10 frm hd ok) : ({ s with write := W, done := e } : Shf) = mwriteR s frm hd ok := by
 unfold mwriteR
 rw [← h]

def h22s : Shf := mbegR (objOf [1#8, 2#8, 3#8] 1) 1 1 [2] 3 10
def h22t : Shf := mdoneR h22s 1 (chkAt [1#8, 2#8, 3#8] 1 1 0).head (chkAt [1#8, 2#8, 3#8] 1 1 0).data true [1#8, 2#8, 3#8] 1 1
def h22m : Msg := (msgsOf h22t.write).getD 0 (askOf h22s.read 0)
theorem h22_okB : okB (objOf [1#8, 2#8, 3#8] 1) 1 1 10 := by unfold okB; decide +kernel
theorem h22_of : RdOf [1#8, 2#8, 3#8] 1 1 h22s.read := RdOf.begin (k := 1) (n := 1) (by decide) (by decide) (by decide) (by decide)
theorem h22_len : (asksR (beginR (objOf [1#8, 2#8, 3#8] 1) 1 1 10)).length = 1 := by kernel_rfl
theorem h22_ask : (asksR (beginR (objOf [1#8, 2#8, 3#8] 1) 1 1 10))[0]? = some (askOf h22s.read 0) := by exact rfl
theorem h22_one : (gotR h22s.read 1 (chkAt [1#8, 2#8, 3#8] 1 1 0).head (chkAt [1#8, 2#8, 3#8] 1 1 0).data true).done = 1 := by decide +kernel
theorem h22_d : h22t.done = 0 := by decide +kernel
theorem h22_ml : (msgsOf h22t.write).length = 1 := by kernel_rfl
theorem h22_m : (msgsOf h22t.write)[0]? = some h22m := by
 unfold h22m
 rw [List.getD_eq_getElem?_getD, List.getElem?_eq_getElem (show 0 < (msgsOf h22t.write).length by rw [h22_ml]; decide)]
 rfl
theorem h22_to : h22m.to = 2 := by decide +kernel
theorem h22_ep : h22m.head.id.epoch = 3 := by decide +kernel
theorem h22_hl : h22t.write.heads.length ≤ 1000000 := by decide +kernel
theorem h22_e : (gotOf h22t.write 10 2 h22m.head true).2 = 1 := by decide +kernel

set_option maxHeartbeats 4000000 in
theorem heads22_spec {S : Nat → Prop} {w : World}  :
 Calls Try.prog 51 #[] w (Ret fun v w' => Ext w w' ∧ v = .bool true) := by
 refine qS (fn := Try.f51) (n := 95) (σ := []) Try.func51 ?_
 have H := Hp.startF (w := w) (S := S) (G := []) .nil
 refine qR 3 [.c [1, 0], .c [2]] [] ?_
 refine qG (sq 0 10) ?_
 refine RW.new (κ := .seq) (d := some 14) (r := (sq 1 10)) (o := .cells #[.int .u8 1, .int .u8 2, .int .u8 3] 5 (0, 0)) (v := fun b => .slice (some ⟨b, 0, none⟩) 3 3) (fun b => by as_aux_lemma => kernel_rfl) (nofun) H ?_
 intro b1 w2 H
 have H := H.freeze 0 rfl Sb ([1#8, 2#8, 3#8] : List (BitVec 8)) 3 (by simp [maxLen]) (by first | exact Nat.le_refl _ | simp) (EsP.cons (c := [.int .u8 1]) (Shape.bv_lit (x := 1#8) (by decide)) (EsP.cons (c := [.int .u8 2]) (Shape.bv_lit (x := 2#8) (by decide)) (EsP.cons (c := [.int .u8 3]) (Shape.bv_lit (x := 3#8) (by decide)) EsP.nil)))
 have H : Hp w S [] [] [] [Rp SB [.slice (some ⟨b1, 0, none⟩) 3 3] ([1#8, 2#8, 3#8] : List (BitVec 8))] _ := H
 refine qK .seq (some 15) (sq 2 10) 52 #[.slice (some ⟨b1, 0, none⟩) 3 3, .I 1, .I 1] (object22_ok (S := Av S w [] (idsOf [] [])) (xs := ([1#8, 2#8, 3#8] : List (BitVec 8))) (H.rp 0 rfl) (k := 1) (n := 1) (by decide) (by decide) (by decide) (by decide)) ?_
 rintro _ w3 hE7 ⟨cs4, a5, c6, rfl, hr8, hr9⟩
 have H0s := H
 obtain ⟨a6q10, k6q10, rfl, hf11, hf12, hf13, hf14, hf15, hf16⟩ := obj_open hr8
 have H := H.addN hE7 (F := Rp (Shape.slice chkS) [.slice a5 ((chksOf ([1#8, 2#8, 3#8] : List (BitVec 8)) 1 1).length) c6] (chksOf ([1#8, 2#8, 3#8] : List (BitVec 8)) 1 1)) hr9
 have H := H.add (F := Rp (Shape.slice (Shape.int .i64)) [.slice a6q10 ((objOf ([1#8, 2#8, 3#8] : List (BitVec 8)) 1).nodes.length) k6q10] ((objOf ([1#8, 2#8, 3#8] : List (BitVec 8)) 1).nodes)) ((H0s.addN hE7 (F := Rp (Shape.slice (Shape.int .i64)) [.slice a6q10 ((objOf ([1#8, 2#8, 3#8] : List (BitVec 8)) 1).nodes.length) k6q10] ((objOf ([1#8, 2#8, 3#8] : List (BitVec 8)) 1).nodes)) hf16).rp 0 rfl)
 refine qP 4 (sq 6 10) [(16, .agg (objV (objOf ([1#8, 2#8, 3#8] : List (BitVec 8)) 1) a6q10 k6q10).toArray), (17, .slice a5 ((chksOf ([1#8, 2#8, 3#8] : List (BitVec 8)) 1 1).length) c6), (18, .bool true)] ?_
 refine qB .seq 1 (sq 7 10) #[.string (⟨#[]⟩), .int .u64 0, .I 0, .int .u32 0, .I 0, .int .u64 0, .slice none 0 0] 102 H ?_
 intro b17 w18 H
 refine qW 102 b17 0 (sq 8 10) (.agg (objV (objOf ([1#8, 2#8, 3#8] : List (BitVec 8)) 1) a6q10 k6q10).toArray) [(b17, .cells (objV (objOf ([1#8, 2#8, 3#8] : List (BitVec 8)) 1) a6q10 k6q10).toArray 102 (0, 0))] H 0 rfl rfl ?_
 intro w19 H
 refine qF 2 [(1, .P b17 0), (2, .slice a5 ((chksOf ([1#8, 2#8, 3#8] : List (BitVec 8)) 1 1).length) c6), (3, .bool true)] ?_
 refine qR 1 [.c [2, 0], .c [3]] [(1, .P b17 0), (2, .slice a5 ((chksOf ([1#8, 2#8, 3#8] : List (BitVec 8)) 1 1).length) c6), (3, .bool true)] ?_
 refine qG (sq 0 11) ?_
 refine qL .seq 20 (sq 1 11) 102 b17 0 0 (.agg (objV (objOf ([1#8, 2#8, 3#8] : List (BitVec 8)) 1) a6q10 k6q10).toArray) (H.cells 0 rfl) ?_
 refine RW.new (κ := .seq) (d := some 21) (r := (sq 2 11)) (o := .cells #[.I 2] 3 (0, 0)) (v := fun b => .slice (some ⟨b, 0, none⟩) 1 1) (fun b => by as_aux_lemma => kernel_rfl) (nofun) H ?_
 intro b20 w21 H
 have H := H.freeze 0 rfl (Shape.int .i64) ([2] : List Int) 1 (by simp [maxLen]) (by first | exact Nat.le_refl _ | simp) (EsP.cons (c := [.I 2]) (Shape.int_mk (by decide)) EsP.nil)
 have H : Hp w S [] [(b17, .cells (objV (objOf ([1#8, 2#8, 3#8] : List (BitVec 8)) 1) a6q10 k6q10).toArray 102 (0, 0))] [] [Rp (Shape.slice (Shape.int .i64)) [.slice (some ⟨b20, 0, none⟩) 1 1] ([2] : List Int), Rp (Shape.slice (Shape.int .i64)) [.slice a6q10 ((objOf ([1#8, 2#8, 3#8] : List (BitVec 8)) 1).nodes.length) k6q10] ((objOf ([1#8, 2#8, 3#8] : List (BitVec 8)) 1).nodes), Rp (Shape.slice chkS) [.slice a5 ((chksOf ([1#8, 2#8, 3#8] : List (BitVec 8)) 1 1).length) c6] (chksOf ([1#8, 2#8, 3#8] : List (BitVec 8)) 1 1), Rp SB [.slice (some ⟨b1, 0, none⟩) 3 3] ([1#8, 2#8, 3#8] : List (BitVec 8))] _ := H
 refine qK .seq (some 22) (sq 3 11) 53 #[.agg (objV (objOf ([1#8, 2#8, 3#8] : List (BitVec 8)) 1) a6q10 k6q10).toArray, .I 1, .I 1, .slice (some ⟨b20, 0, none⟩) 1 1, .int .u64 3, .I 10] (mbegin_ok (O := (objOf ([1#8, 2#8, 3#8] : List (BitVec 8)) 1)) (obj_mk (y0 := (objOf ([1#8, 2#8, 3#8] : List (BitVec 8)) 1).key) (y1 := (objOf ([1#8, 2#8, 3#8] : List (BitVec 8)) 1).version) (y2 := (objOf ([1#8, 2#8, 3#8] : List (BitVec 8)) 1).size) (y3 := (objOf ([1#8, 2#8, 3#8] : List (BitVec 8)) 1).sum) (y4 := (objOf ([1#8, 2#8, 3#8] : List (BitVec 8)) 1).group) (y5 := (objOf ([1#8, 2#8, 3#8] : List (BitVec 8)) 1).epoch) (y6 := (objOf ([1#8, 2#8, 3#8] : List (BitVec 8)) 1).nodes) ⟨rfl, by first | assumption | (simp [maxLen]; done) | decide⟩ u64a i64a Shape.bv_mk i64a u64a (H.rp 1 rfl)) 1 1 3 10 (to := ([2] : List Int)) (H.rp 0 rfl) (by omega) (h22_okB) (rfl)) ?_
 rintro _ w22 hE26 ⟨cs23, a24, c25, rfl, hr27, hr28⟩
 have H0s := H
 obtain ⟨s29, hs30⟩ : ∃ s_ : Shf, s_ = mbegR (objOf ([1#8, 2#8, 3#8] : List (BitVec 8)) 1) 1 1 ([2] : List Int) 3 10 := ⟨_, rfl⟩
 rw [← hs30] at hr27
 obtain ⟨cs0q31, a1q31, k1q31, cs3q31, rfl, hf32, hf33, hf34, hf35, hf36⟩ := shf_open hr27
 obtain ⟨cs0q37, a3q37, k3q37, a4q37, k4q37, rfl, hf38, hf39, hf40, hf41, hf42, hf43, hf44, hf45⟩ := rd_open hf32
 obtain ⟨a6q46, k6q46, rfl, hf47, hf48, hf49, hf50, hf51, hf52⟩ := obj_open hf38
 obtain ⟨a3q53, k3q53, a4q53, k4q53, a5q53, k5q53, a6q53, k6q53, rfl, hf54, hf55, hf56, hf57, hf58, hf59, hf60, hf61, hf62, hf63⟩ := wr_open hf35
 have H := H.addN hE26 (F := Rp (Shape.slice msgS) [.slice a24 ((asksR (beginR (objOf ([1#8, 2#8, 3#8] : List (BitVec 8)) 1) 1 1 10)).length) c25] (asksR (beginR (objOf ([1#8, 2#8, 3#8] : List (BitVec 8)) 1) 1 1 10))) hr28
 have H := H.add (F := Rp (Shape.slice (Shape.int .i64)) [.slice a6q46 s29.read.object.nodes.length k6q46] s29.read.object.nodes) ((H0s.addN hE26 (F := Rp (Shape.slice (Shape.int .i64)) [.slice a6q46 s29.read.object.nodes.length k6q46] s29.read.object.nodes) hf52).rp 0 rfl)
 have H := H.add (F := Rp (Shape.slice pcS) [.slice a3q37 s29.read.pieces.length k3q37] s29.read.pieces) ((H0s.addN hE26 (F := Rp (Shape.slice pcS) [.slice a3q37 s29.read.pieces.length k3q37] s29.read.pieces) hf41).rp 0 rfl)
 have H := H.add (F := Rp (Shape.slice (Shape.int .i64)) [.slice a4q37 s29.read.bad.length k4q37] s29.read.bad) ((H0s.addN hE26 (F := Rp (Shape.slice (Shape.int .i64)) [.slice a4q37 s29.read.bad.length k4q37] s29.read.bad) hf42).rp 0 rfl)
 have H := H.add (F := Rp (Shape.slice (Shape.int .i64)) [.slice a1q31 s29.to.length k1q31] s29.to) ((H0s.addN hE26 (F := Rp (Shape.slice (Shape.int .i64)) [.slice a1q31 s29.to.length k1q31] s29.to) hf33).rp 0 rfl)
 have H := H.add (F := Rp (Shape.slice hdrS) [.slice a3q53 s29.write.heads.length k3q53] s29.write.heads) ((H0s.addN hE26 (F := Rp (Shape.slice hdrS) [.slice a3q53 s29.write.heads.length k3q53] s29.write.heads) hf57).rp 0 rfl)
 have H := H.add (F := Rp (Shape.slice SB) [.slice a4q53 s29.write.chunks.length k4q53] s29.write.chunks) ((H0s.addN hE26 (F := Rp (Shape.slice SB) [.slice a4q53 s29.write.chunks.length k4q53] s29.write.chunks) hf58).rp 0 rfl)
 have H := H.add (F := Rp (Shape.slice (Shape.int .i64)) [.slice a5q53 s29.write.nodes.length k5q53] s29.write.nodes) ((H0s.addN hE26 (F := Rp (Shape.slice (Shape.int .i64)) [.slice a5q53 s29.write.nodes.length k5q53] s29.write.nodes) hf59).rp 0 rfl)
 have H := H.add (F := Rp (Shape.slice (Shape.int .i64)) [.slice a6q53 s29.write.acks.length k6q53] s29.write.acks) ((H0s.addN hE26 (F := Rp (Shape.slice (Shape.int .i64)) [.slice a6q53 s29.write.acks.length k6q53] s29.write.acks) hf60).rp 0 rfl)
 refine qP 4 (sq 7 11) [(2, .slice a5 ((chksOf ([1#8, 2#8, 3#8] : List (BitVec 8)) 1 1).length) c6), (3, .bool true), (23, .agg (shfV s29 a6q46 k6q46 a3q37 k3q37 a4q37 k4q37 a1q31 k1q31 a3q53 k3q53 a4q53 k4q53 a5q53 k5q53 a6q53 k6q53).toArray), (24, .slice a24 ((asksR (beginR (objOf ([1#8, 2#8, 3#8] : List (BitVec 8)) 1) 1 1 10)).length) c25), (25, .I 0)] ?_
 refine qB .seq 4 (sq 8 11) ((shfZ).toArray) 118 H ?_
 intro b64 w65 H
 refine qW 118 b64 0 (sq 9 11) (.agg (shfV s29 a6q46 k6q46 a3q37 k3q37 a4q37 k4q37 a1q31 k1q31 a3q53 k3q53 a4q53 k4q53 a5q53 k5q53 a6q53 k6q53).toArray) [(b64, .cells (shfV s29 a6q46 k6q46 a3q37 k3q37 a4q37 k4q37 a1q31 k1q31 a3q53 k3q53 a4q53 k4q53 a5q53 k5q53 a6q53 k6q53).toArray 118 (0, 0)), (b17, .cells (objV (objOf ([1#8, 2#8, 3#8] : List (BitVec 8)) 1) a6q10 k6q10).toArray 102 (0, 0))] H 0 rfl rfl ?_
 intro w66 H
 refine qF 2 [(2, .slice a5 ((chksOf ([1#8, 2#8, 3#8] : List (BitVec 8)) 1 1).length) c6), (3, .bool true), (4, .P b64 0), (5, .slice a24 ((asksR (beginR (objOf ([1#8, 2#8, 3#8] : List (BitVec 8)) 1) 1 1 10)).length) c25), (6, .I 0)] ?_
 refine qR 2 [.c [3, 0, 0], .c [3, 0, 1], .c [4]] [(2, .slice a5 ((chksOf ([1#8, 2#8, 3#8] : List (BitVec 8)) 1 1).length) c6), (3, .bool true), (4, .P b64 0), (5, .slice a24 ((asksR (beginR (objOf ([1#8, 2#8, 3#8] : List (BitVec 8)) 1) 1 1 10)).length) c25), (6, .I 0)] ?_
 refine qG (sq 0 18) ?_
 refine qP 12 (sq 12 18) [(2, .slice a5 ((chksOf ([1#8, 2#8, 3#8] : List (BitVec 8)) 1 1).length) c6), (4, .P b64 0), (5, .slice a24 ((asksR (beginR (objOf ([1#8, 2#8, 3#8] : List (BitVec 8)) 1) 1 1 10)).length) c25), (37, .bool ((((asksR (beginR (objOf ([1#8, 2#8, 3#8] : List (BitVec 8)) 1) 1 1 10)).length : Nat) : Int) != 1))] ?_
 refine tN (fun b_ => [(2, .slice a5 ((chksOf ([1#8, 2#8, 3#8] : List (BitVec 8)) 1 1).length) c6), (4, .P b64 0), (5, .slice a24 ((asksR (beginR (objOf ([1#8, 2#8, 3#8] : List (BitVec 8)) 1) 1 1 10)).length) c25), (37, .bool b_)]) (((asksR (beginR (objOf ([1#8, 2#8, 3#8] : List (BitVec 8)) 1) 1 1 10)).length : Nat) : Int) 1 (fun h67 => ?_) (fun h67 => ?_)
 ·
  exact absurd (congrArg (fun q : Nat => (q : Int)) h22_len) h67
 ·
  refine qP 1 (sq 13 18) [(2, .slice a5 ((chksOf ([1#8, 2#8, 3#8] : List (BitVec 8)) 1 1).length) c6), (4, .P b64 0), (37, .bool false), (38, .slice a24 ((asksR (beginR (objOf ([1#8, 2#8, 3#8] : List (BitVec 8)) 1) 1 1 10)).length) c25)] ?_
  have hx68 : 0 < (asksR (beginR (objOf ([1#8, 2#8, 3#8] : List (BitVec 8)) 1) 1 1 10)).length := by rw [h22_len]; decide
  refine qX .seq 39 (sq 14 18) 33 57 0 msgS (askOf h22s.read 0) H 8 rfl 0 (by omega) (h22_ask) ?_
  intro b69 o70 es71 hr72 H
  obtain ⟨a10q73, k10q73, cs11q73, cs12q73, a13q73, k13q73, a19q73, k19q73, rfl, hf74, hf75, hf76, hf77, hf78, hf79, hf80, hf81, hf82, hf83, hf84, hf85, hf86, hf87, hf88, hf89, hf90, hf91⟩ := msg_open hr72
  obtain ⟨a0q92, k0q92, a1q92, k1q92, rfl, hf93, hf94⟩ := conf_open hf83
  obtain ⟨cs0q95, rfl, hf96, hf97, hf98, hf99⟩ := hdr_open hf84
  obtain ⟨rfl, hf101, hf102, hf103⟩ := cid_open hf96
  have H := H.add (F := Rp (Shape.slice entS) [.slice a10q73 ((askOf h22s.read 0).entries.length) k10q73] ((askOf h22s.read 0).entries)) hf82
  have H := H.add (F := Rp (Shape.slice (Shape.int .i64)) [.slice a0q92 (((askOf h22s.read 0).conf).voters.length) k0q92] (((askOf h22s.read 0).conf).voters)) hf93
  have H := H.add (F := Rp (Shape.slice (Shape.int .i64)) [.slice a1q92 (((askOf h22s.read 0).conf).learners.length) k1q92] (((askOf h22s.read 0).conf).learners)) hf94
  have H := H.add (F := Rp SB [.slice a13q73 ((askOf h22s.read 0).data.length) k13q73] ((askOf h22s.read 0).data)) hf85
  have H := H.add (F := Rp (Shape.slice Shape.str) [.slice a19q73 ((askOf h22s.read 0).names.length) k19q73] ((askOf h22s.read 0).names)) hf91
  refine qP 1 (sq 15 18) [(2, .slice a5 ((chksOf ([1#8, 2#8, 3#8] : List (BitVec 8)) 1 1).length) c6), (4, .P b64 0), (37, .bool false), (40, .pointer (some ⟨b69, o70 + 2, none⟩))] ?_
  refine qL .seq 41 (sq 16 18) 3 b69 (o70 + 2) 2 (.I ((askOf h22s.read 0).to)) (H.fc 5 rfl) ?_
  refine qF 2 [(2, .slice a5 ((chksOf ([1#8, 2#8, 3#8] : List (BitVec 8)) 1 1).length) c6), (4, .P b64 0), (43, .bool (((askOf h22s.read 0).to) != 1))] ?_
  refine qN ((askOf h22s.read 0).to) 1 (fun h104 => ?_) (fun h104 => ?_)
  ·
   exact absurd (by decide) h104
  ·
   refine qR 2 [.c [4, 0], .c [5]] [(2, .slice a5 ((chksOf ([1#8, 2#8, 3#8] : List (BitVec 8)) 1 1).length) c6), (4, .P b64 0)] ?_
   refine WK.joinV (α := Nat × Shf × Option Addr × Nat × Option Addr × Nat × Option Addr × Nat × Option Addr × Nat × Option Addr × Nat × Option Addr × Nat × Option Addr × Nat × Option Addr × Nat × Option Addr × Nat) (fun x_ w_ => match x_ with | (bj1, sj1, a006j1, k006j1, a03j1, k03j1, a04j1, k04j1, a1j1, k1j1, a33j1, k33j1, a34j1, k34j1, a35j1, k35j1, a36j1, k36j1, maj1, mcj1) => Hp w S [] [(bj1, .cells (shfV sj1 a006j1 k006j1 a03j1 k03j1 a04j1 k04j1 a1j1 k1j1 a33j1 k33j1 a34j1 k34j1 a35j1 k35j1 a36j1 k36j1).toArray 118 (0, 0)), (b64, .cells (shfV s29 a6q46 k6q46 a3q37 k3q37 a4q37 k4q37 a1q31 k1q31 a3q53 k3q53 a4q53 k4q53 a5q53 k5q53 a6q53 k6q53).toArray 118 (0, 0)), (b17, .cells (objV (objOf ([1#8, 2#8, 3#8] : List (BitVec 8)) 1) a6q10 k6q10).toArray 102 (0, 0))] [] [Rp (Shape.slice msgS) [.slice maj1 (msgsOf sj1.write).length mcj1] (msgsOf sj1.write), Rp (Shape.slice (Shape.int .i64)) [.slice a006j1 sj1.read.object.nodes.length k006j1] sj1.read.object.nodes, Rp (Shape.slice pcS) [.slice a03j1 sj1.read.pieces.length k03j1] sj1.read.pieces, Rp (Shape.slice (Shape.int .i64)) [.slice a04j1 sj1.read.bad.length k04j1] sj1.read.bad, Rp (Shape.slice (Shape.int .i64)) [.slice a1j1 sj1.to.length k1j1] sj1.to, Rp (Shape.slice hdrS) [.slice a33j1 sj1.write.heads.length k33j1] sj1.write.heads, Rp (Shape.slice SB) [.slice a34j1 sj1.write.chunks.length k34j1] sj1.write.chunks, Rp (Shape.slice (Shape.int .i64)) [.slice a35j1 sj1.write.nodes.length k35j1] sj1.write.nodes, Rp (Shape.slice (Shape.int .i64)) [.slice a36j1 sj1.write.acks.length k36j1] sj1.write.acks, Rp (Shape.slice Shape.str) [.slice a19q73 ((askOf h22s.read 0).names.length) k19q73] ((askOf h22s.read 0).names), Rp SB [.slice a13q73 ((askOf h22s.read 0).data.length) k13q73] ((askOf h22s.read 0).data), Rp (Shape.slice (Shape.int .i64)) [.slice a1q92 (((askOf h22s.read 0).conf).learners.length) k1q92] (((askOf h22s.read 0).conf).learners), Rp (Shape.slice (Shape.int .i64)) [.slice a0q92 (((askOf h22s.read 0).conf).voters.length) k0q92] (((askOf h22s.read 0).conf).voters), Rp (Shape.slice entS) [.slice a10q73 ((askOf h22s.read 0).entries.length) k10q73] ((askOf h22s.read 0).entries), Rp (Shape.slice (Shape.int .i64)) [.slice a6q53 s29.write.acks.length k6q53] s29.write.acks, Rp (Shape.slice (Shape.int .i64)) [.slice a5q53 s29.write.nodes.length k5q53] s29.write.nodes, Rp (Shape.slice SB) [.slice a4q53 s29.write.chunks.length k4q53] s29.write.chunks, Rp (Shape.slice hdrS) [.slice a3q53 s29.write.heads.length k3q53] s29.write.heads, Rp (Shape.slice (Shape.int .i64)) [.slice a1q31 s29.to.length k1q31] s29.to, Rp (Shape.slice (Shape.int .i64)) [.slice a4q37 s29.read.bad.length k4q37] s29.read.bad, Rp (Shape.slice pcS) [.slice a3q37 s29.read.pieces.length k3q37] s29.read.pieces, Rp (Shape.slice (Shape.int .i64)) [.slice a6q46 s29.read.object.nodes.length k6q46] s29.read.object.nodes, Rp (Shape.slice msgS) [.slice a24 ((asksR (beginR (objOf ([1#8, 2#8, 3#8] : List (BitVec 8)) 1) 1 1 10)).length) c25] (asksR (beginR (objOf ([1#8, 2#8, 3#8] : List (BitVec 8)) 1) 1 1 10)), Rp (Shape.slice (Shape.int .i64)) [.slice (some ⟨b20, 0, none⟩) 1 1] ([2] : List Int), Rp (Shape.slice (Shape.int .i64)) [.slice a6q10 ((objOf ([1#8, 2#8, 3#8] : List (BitVec 8)) 1).nodes.length) k6q10] ((objOf ([1#8, 2#8, 3#8] : List (BitVec 8)) 1).nodes), Rp (Shape.slice chkS) [.slice a5 ((chksOf ([1#8, 2#8, 3#8] : List (BitVec 8)) 1 1).length) c6] (chksOf ([1#8, 2#8, 3#8] : List (BitVec 8)) 1 1), Rp SB [.slice (some ⟨b1, 0, none⟩) 3 3] ([1#8, 2#8, 3#8] : List (BitVec 8))] w_ ∧ (sj1 = h22t) ∧ shB sj1 ∧ True) (fun x_ => match x_ with | (bj1, sj1, a006j1, k006j1, a03j1, k03j1, a04j1, k04j1, a1j1, k1j1, a33j1, k33j1, a34j1, k34j1, a35j1, k35j1, a36j1, k36j1, maj1, mcj1) => [(7, .P bj1 0), (8, .slice maj1 (msgsOf sj1.write).length mcj1), (9, .I sj1.done)]) [Cq Try.prog 51 [5]] (fun hJ105 => ?_) ?_
   ·
    refine WK.drawH1 [] (.node (qs [0, 1, 2, 3, 4, 5, 6, 7, 8, 9]) (.cons 10 (.leaf [(11, .qui), (12, .qui), (13, .qui), (14, .qui), (15, .seq), (16, .seq), (17, .qui), (18, .qui)]) (.cons 15 (.leaf [(10, .seq), (11, .qui), (12, .qui), (13, .qui), (14, .qui), (16, .seq), (17, .qui), (18, .qui)]) .nil))) Try_mixed (by as_aux_lemma => kernel_rfl) (by as_aux_lemma => kernel_rfl) ?_
    intro w107 hw108
    have H := H.draw
    rw [← hw108] at H
    clear hw108
    have hS := Chg.refl w107 []
    refine RG.node' (qs [0, 1, 2, 3, 4, 5, 6, 7, 8, 9]) (by as_aux_lemma => kernel_rfl) ?_
    refine RH.load (d := some 45) (r := (qs [1, 2, 3, 4, 5, 6, 7, 8, 9])) (T := 118) (b := b64) (o' := 0) (k := 0) (v := .agg (shfV s29 a6q46 k6q46 a3q37 k3q37 a4q37 k4q37 a1q31 k1q31 a3q53 k3q53 a4q53 k4q53 a5q53 k5q53 a6q53 k6q53).toArray) (by as_aux_lemma => kernel_rfl) hS (H.cells 0 rfl) (by simp) (by simp) rfl (by as_aux_lemma => kernel_rfl) ?_
    refine qHP hS 1 (qs [2, 3, 4, 5, 6, 7, 8, 9]) [(2, .slice a5 ((chksOf ([1#8, 2#8, 3#8] : List (BitVec 8)) 1 1).length) c6), (45, .agg (shfV s29 a6q46 k6q46 a3q37 k3q37 a4q37 k4q37 a1q31 k1q31 a3q53 k3q53 a4q53 k4q53 a5q53 k5q53 a6q53 k6q53).toArray), (46, .slice a5 ((chksOf ([1#8, 2#8, 3#8] : List (BitVec 8)) 1 1).length) c6)] ?_
    have hx109 : 0 < (chksOf ([1#8, 2#8, 3#8] : List (BitVec 8)) 1 1).length := by rw [chksOf_len]; decide
    refine RH.index (d := some 47) (r := (qs [3, 4, 5, 6, 7, 8, 9])) (T := 103) (e := 92) (ik := .i64) (ix := 0) (sh := chkS) (x := (chkAt [1#8, 2#8, 3#8] 1 1 0)) (by as_aux_lemma => kernel_rfl) hS (by as_aux_lemma => kernel_rfl) H 17 rfl 0 (by omega) (chksOf_get (by decide)) ?_
    intro b110 o111 es112 hr113 H
    obtain ⟨cs0q114, a1q114, k1q114, rfl, hf115, hf116⟩ := chk_open hr113
    obtain ⟨cs0q117, rfl, hf118, hf119, hf120, hf121⟩ := hdr_open hf115
    obtain ⟨rfl, hf123, hf124, hf125⟩ := cid_open hf118
    have H := H.add (F := Rp SB [.slice a1q114 ((chkAt [1#8, 2#8, 3#8] 1 1 0).data.length) k1q114] ((chkAt [1#8, 2#8, 3#8] 1 1 0).data)) hf116
    refine qHP hS 1 (qs [4, 5, 6, 7, 8, 9]) [(2, .slice a5 ((chksOf ([1#8, 2#8, 3#8] : List (BitVec 8)) 1 1).length) c6), (45, .agg (shfV s29 a6q46 k6q46 a3q37 k3q37 a4q37 k4q37 a1q31 k1q31 a3q53 k3q53 a4q53 k4q53 a5q53 k5q53 a6q53 k6q53).toArray), (48, .P b110 o111)] ?_
    refine RH.load (d := some 49) (r := (qs [5, 6, 7, 8, 9])) (T := 53) (b := b110) (o' := o111) (k := 0) (v := .agg (hdrV ((chkAt [1#8, 2#8, 3#8] 1 1 0).head)).toArray) (by as_aux_lemma => kernel_rfl) hS (H.fc 1 rfl) (by simp) (by simp) rfl (by as_aux_lemma => kernel_rfl) ?_
    refine qHP hS 1 (qs [6, 7, 8, 9]) [(45, .agg (shfV s29 a6q46 k6q46 a3q37 k3q37 a4q37 k4q37 a1q31 k1q31 a3q53 k3q53 a4q53 k4q53 a5q53 k5q53 a6q53 k6q53).toArray), (49, .agg (hdrV ((chkAt [1#8, 2#8, 3#8] 1 1 0).head)).toArray), (50, .slice a5 ((chksOf ([1#8, 2#8, 3#8] : List (BitVec 8)) 1 1).length) c6)] ?_
    have hx126 : 0 < (chksOf ([1#8, 2#8, 3#8] : List (BitVec 8)) 1 1).length := by rw [chksOf_len]; decide
    refine RH.index (d := some 51) (r := (qs [7, 8, 9])) (T := 103) (e := 92) (ik := .i64) (ix := 0) (sh := chkS) (x := (chkAt [1#8, 2#8, 3#8] 1 1 0)) (by as_aux_lemma => kernel_rfl) hS (by as_aux_lemma => kernel_rfl) H 19 rfl 0 (by omega) (chksOf_get (by decide)) ?_
    intro b127 o128 es129 hr130 H
    obtain ⟨cs0q131, a1q131, k1q131, rfl, hf132, hf133⟩ := chk_open hr130
    obtain ⟨cs0q134, rfl, hf135, hf136, hf137, hf138⟩ := hdr_open hf132
    obtain ⟨rfl, hf140, hf141, hf142⟩ := cid_open hf135
    have H := H.add (F := Rp SB [.slice a1q131 ((chkAt [1#8, 2#8, 3#8] 1 1 0).data.length) k1q131] ((chkAt [1#8, 2#8, 3#8] 1 1 0).data)) hf133
    refine qHP hS 1 (qs [8, 9]) [(45, .agg (shfV s29 a6q46 k6q46 a3q37 k3q37 a4q37 k4q37 a1q31 k1q31 a3q53 k3q53 a4q53 k4q53 a5q53 k5q53 a6q53 k6q53).toArray), (49, .agg (hdrV ((chkAt [1#8, 2#8, 3#8] 1 1 0).head)).toArray), (52, .pointer (some ⟨b127, o128 + 7, none⟩))] ?_
    refine RH.load (d := some 53) (r := [(9, .qui)]) (T := 23) (b := b127) (o' := o128 + 7) (k := 7) (v := .slice a1q131 ((chkAt [1#8, 2#8, 3#8] 1 1 0).data.length) k1q131) (by as_aux_lemma => kernel_rfl) hS (H.fc 1 rfl) (by simp) (by simp) rfl (by as_aux_lemma => kernel_rfl) ?_
    refine RH.finB hS 1 [45, 54] [(45, .agg (shfV s29 a6q46 k6q46 a3q37 k3q37 a4q37 k4q37 a1q31 k1q31 a3q53 k3q53 a4q53 k4q53 a5q53 k5q53 a6q53 k6q53).toArray), (54, .agg #[.I 15, .I 1, .I 0, .int .u64 0, .int .u64 0, .int .u64 0, .int .u64 0, .int .u64 0, .bool true, .bool false, .slice none 0 0, .slice none 0 0, .slice none 0 0, .int .u64 ((((chkAt [1#8, 2#8, 3#8] 1 1 0).head).id).version), .I ((((chkAt [1#8, 2#8, 3#8] 1 1 0).head).id).index), .int .u64 ((((chkAt [1#8, 2#8, 3#8] 1 1 0).head).id).epoch), .I (((chkAt [1#8, 2#8, 3#8] 1 1 0).head).kk), .I (((chkAt [1#8, 2#8, 3#8] 1 1 0).head).nn), .I (((chkAt [1#8, 2#8, 3#8] 1 1 0).head).size), .int .u32 (((((chkAt [1#8, 2#8, 3#8] 1 1 0).head).sum).toNat : Nat) : Int), .slice a1q131 ((chkAt [1#8, 2#8, 3#8] 1 1 0).data.length) k1q131, .int .u64 0, .int .u64 0, .I 0, .string (⟨#[]⟩), .I 0, .slice none 0 0])] (by as_aux_lemma => kernel_rfl) ?_
    refine (RGB.cons' ?_ (RGB.cons' ?_ RGB.nil'))
    ·
     refine RG.leaf' [(10, .seq), (11, .qui), (12, .qui), (13, .qui), (14, .qui), (15, .seq), (16, .seq), (17, .qui), (18, .qui)] (by as_aux_lemma => kernel_rfl) ?_
     have Hr := H
     refine RH.chn hS ?_
     refine qK .chn (some 55) [] 54 #[.agg (shfV s29 a6q46 k6q46 a3q37 k3q37 a4q37 k4q37 a1q31 k1q31 a3q53 k3q53 a4q53 k4q53 a5q53 k5q53 a6q53 k6q53).toArray, .agg #[.I 15, .I 1, .I 0, .int .u64 0, .int .u64 0, .int .u64 0, .int .u64 0, .int .u64 0, .bool true, .bool false, .slice none 0 0, .slice none 0 0, .slice none 0 0, .int .u64 ((((chkAt [1#8, 2#8, 3#8] 1 1 0).head).id).version), .I ((((chkAt [1#8, 2#8, 3#8] 1 1 0).head).id).index), .int .u64 ((((chkAt [1#8, 2#8, 3#8] 1 1 0).head).id).epoch), .I (((chkAt [1#8, 2#8, 3#8] 1 1 0).head).kk), .I (((chkAt [1#8, 2#8, 3#8] 1 1 0).head).nn), .I (((chkAt [1#8, 2#8, 3#8] 1 1 0).head).size), .int .u32 (((((chkAt [1#8, 2#8, 3#8] 1 1 0).head).sum).toNat : Nat) : Int), .slice a1q131 ((chkAt [1#8, 2#8, 3#8] 1 1 0).data.length) k1q131, .int .u64 0, .int .u64 0, .I 0, .string (⟨#[]⟩), .I 0, .slice none 0 0]] (mgot_done (s := s29) (shf_mk (y0 := s29.read) (y3 := s29.write) (rd_mkB (by unfold rdB; omega) (H.rp 17 rfl) (H.rp 16 rfl) (H.rp 15 rfl)) (H.rp 14 rfl) u64a (wr_mkV u64a u64a ⟨rfl, by first | assumption | (simp [maxLen]; done) | decide⟩ (H.rp 13 rfl) (H.rp 12 rfl) (H.rp 11 rfl) (H.rp 10 rfl) i64a i64a i64a) Shape.bool_mk i64a) (xs := [1#8, 2#8, 3#8]) (k := 1) (n := 1) (hs30 ▸ h22_of) (by rw [hs30]; rfl) (by rw [hs30]; rfl) 1 ((chkAt [1#8, 2#8, 3#8] 1 1 0).head) true (dt := (chkAt [1#8, 2#8, 3#8] 1 1 0).data) (H.rp 0 rfl) (.I 0) (.int .u64 0) (.int .u64 0) (.int .u64 0) (.int .u64 0) (.int .u64 0) (.bool false) (.slice none 0 0) (.slice none 0 0) (.slice none 0 0) (.int .u64 0) (.int .u64 0) (.I 0) (.string (⟨#[]⟩)) (.I 0) (.slice none 0 0) (by rw [hs30]; decide) (by decide +kernel) (good_own 0 rfl rfl) (hs30 ▸ h22_one) (by rw [hs30]; rfl) (by rw [hs30]; rfl) (by rw [hs30]; decide)) ?_
     rintro _ w144 hE146 ⟨cs145, a153, c154, D151, rfl, hr147, hr155, hD152⟩
     have H0s := H
     obtain ⟨s148, hs149⟩ : ∃ s_ : Shf, s_ = { s29 with read := D151, write := wrOf D151 s29.to s29.epoch [1#8, 2#8, 3#8] 1 1, ready := true, done := if D151.done = 2 then D151.done else s29.done } := ⟨_, rfl⟩
     rw [← hs149] at hr147
     have hlaw150 : s148 = mdoneR s29 1 ((chkAt [1#8, 2#8, 3#8] 1 1 0).head) ((chkAt [1#8, 2#8, 3#8] 1 1 0).data) true [1#8, 2#8, 3#8] 1 1 := by rw [hs149, hD152]; rfl
     rw [show (if D151.done = 2 then D151.done else s29.done) = s148.done by rw [hs149], show wrOf D151 s29.to s29.epoch [1#8, 2#8, 3#8] 1 1 = s148.write by rw [hs149]]
     rw [show wrOf D151 s29.to s29.epoch [1#8, 2#8, 3#8] 1 1 = s148.write by rw [hs149]] at hr155
     obtain ⟨cs0q156, a1q156, k1q156, cs3q156, rfl, hf157, hf158, hf159, hf160, hf161⟩ := shf_open hr147
     obtain ⟨cs0q162, a3q162, k3q162, a4q162, k4q162, rfl, hf163, hf164, hf165, hf166, hf167, hf168, hf169, hf170⟩ := rd_open hf157
     obtain ⟨a6q171, k6q171, rfl, hf172, hf173, hf174, hf175, hf176, hf177⟩ := obj_open hf163
     obtain ⟨a3q178, k3q178, a4q178, k4q178, a5q178, k5q178, a6q178, k6q178, rfl, hf179, hf180, hf181, hf182, hf183, hf184, hf185, hf186, hf187, hf188⟩ := wr_open hf160
     have H := H.addN hE146 (F := Rp (Shape.slice msgS) [.slice a153 (msgsOf s148.write).length c154] (msgsOf s148.write)) hr155
     have H := H.add (F := Rp (Shape.slice (Shape.int .i64)) [.slice a6q171 s148.read.object.nodes.length k6q171] s148.read.object.nodes) ((H0s.addN hE146 (F := Rp (Shape.slice (Shape.int .i64)) [.slice a6q171 s148.read.object.nodes.length k6q171] s148.read.object.nodes) hf177).rp 0 rfl)
     have H := H.add (F := Rp (Shape.slice pcS) [.slice a3q162 s148.read.pieces.length k3q162] s148.read.pieces) ((H0s.addN hE146 (F := Rp (Shape.slice pcS) [.slice a3q162 s148.read.pieces.length k3q162] s148.read.pieces) hf166).rp 0 rfl)
     have H := H.add (F := Rp (Shape.slice (Shape.int .i64)) [.slice a4q162 s148.read.bad.length k4q162] s148.read.bad) ((H0s.addN hE146 (F := Rp (Shape.slice (Shape.int .i64)) [.slice a4q162 s148.read.bad.length k4q162] s148.read.bad) hf167).rp 0 rfl)
     have H := H.add (F := Rp (Shape.slice (Shape.int .i64)) [.slice a1q156 s148.to.length k1q156] s148.to) ((H0s.addN hE146 (F := Rp (Shape.slice (Shape.int .i64)) [.slice a1q156 s148.to.length k1q156] s148.to) hf158).rp 0 rfl)
     have H := H.add (F := Rp (Shape.slice hdrS) [.slice a3q178 s148.write.heads.length k3q178] s148.write.heads) ((H0s.addN hE146 (F := Rp (Shape.slice hdrS) [.slice a3q178 s148.write.heads.length k3q178] s148.write.heads) hf182).rp 0 rfl)
     have H := H.add (F := Rp (Shape.slice SB) [.slice a4q178 s148.write.chunks.length k4q178] s148.write.chunks) ((H0s.addN hE146 (F := Rp (Shape.slice SB) [.slice a4q178 s148.write.chunks.length k4q178] s148.write.chunks) hf183).rp 0 rfl)
     have H := H.add (F := Rp (Shape.slice (Shape.int .i64)) [.slice a5q178 s148.write.nodes.length k5q178] s148.write.nodes) ((H0s.addN hE146 (F := Rp (Shape.slice (Shape.int .i64)) [.slice a5q178 s148.write.nodes.length k5q178] s148.write.nodes) hf184).rp 0 rfl)
     have H := H.add (F := Rp (Shape.slice (Shape.int .i64)) [.slice a6q178 s148.write.acks.length k6q178] s148.write.acks) ((H0s.addN hE146 (F := Rp (Shape.slice (Shape.int .i64)) [.slice a6q178 s148.write.acks.length k6q178] s148.write.acks) hf185).rp 0 rfl)
     intro hS
     refine qHP hS 4 [(15, .seq), (16, .seq), (17, .qui), (18, .qui)] [(56, .agg (shfV s148 a6q171 k6q171 a3q162 k3q162 a4q162 k4q162 a1q156 k1q156 a3q178 k3q178 a4q178 k4q178 a5q178 k5q178 a6q178 k6q178).toArray), (57, .slice a153 (msgsOf s148.write).length c154), (58, .I s148.done)] ?_
     refine RH.chn hS ?_
     refine RW.newC (κ := .chn) (d := some 7) (r := []) (o := .cells (shfZ).toArray 118 (0, 0)) (v := fun b => .P b 0) (fun b => by as_aux_lemma => kernel_rfl) (nofun) H ?_
     intro b190 w191 hnw189 H
     have hnb192 := Nat.le_trans hS.size hnw189
     intro hS
     refine RH.sto ?_
     refine qWC 118 b190 0 [] (.agg (shfV s148 a6q171 k6q171 a3q162 k3q162 a4q162 k4q162 a1q156 k1q156 a3q178 k3q178 a4q178 k4q178 a5q178 k5q178 a6q178 k6q178).toArray) [(b190, .cells (shfV s148 a6q171 k6q171 a3q162 k3q162 a4q162 k4q162 a1q156 k1q156 a3q178 k3q178 a4q178 k4q178 a5q178 k5q178 a6q178 k6q178).toArray 118 (0, 0)), (b64, .cells (shfV s29 a6q46 k6q46 a3q37 k3q37 a4q37 k4q37 a1q31 k1q31 a3q53 k3q53 a4q53 k4q53 a5q53 k5q53 a6q53 k6q53).toArray 118 (0, 0)), (b17, .cells (objV (objOf ([1#8, 2#8, 3#8] : List (BitVec 8)) 1) a6q10 k6q10).toArray 102 (0, 0))] H 0 rfl rfl ?_
     intro w194 hch193 H
     have hS195 := hS.sto hch193 (.inl hnb192)
     refine ⟨hS195, ?_⟩
     have hS := hS195
     refine RH.fin hS 2 [7, 8, 9] [(7, .P b190 0), (8, .slice a153 (msgsOf s148.write).length c154), (9, .I s148.done)] (by as_aux_lemma => kernel_rfl) ?_
     have H := H.pick [8, 7, 6, 5, 4, 3, 2, 1, 0, 13, 14, 15, 16, 17, 19, 20, 21, 22, 23, 24, 25, 26, 27, 28, 29, 30, 31] rfl
     exact hJ105 (b190, s148, a6q171, k6q171, a3q162, k3q162, a4q162, k4q162, a1q156, k1q156, a3q178, k3q178, a4q178, k4q178, a5q178, k5q178, a6q178, k6q178, a153, c154) _ ⟨H, hlaw150.trans (by rw [hs30]; rfl), by unfold shB wrB rdB; omega, trivial⟩
    ·
     refine RG.leaf' [(15, .seq), (10, .seq), (11, .qui), (12, .qui), (13, .qui), (14, .qui), (16, .seq), (17, .qui), (18, .qui)] (by as_aux_lemma => kernel_rfl) ?_
     have Hr := H
     refine RH.chn hS ?_
     refine RW.newC (κ := .chn) (d := some 7) (r := []) (o := .cells (shfZ).toArray 118 (0, 0)) (v := fun b => .P b 0) (fun b => by as_aux_lemma => kernel_rfl) (nofun) H ?_
     intro b197 w198 hnw196 H
     have hnb199 := Nat.le_trans hS.size hnw196
     intro hS
     refine RH.chn hS ?_
     refine qK .chn (some 55) [] 54 #[.agg (shfV s29 a6q46 k6q46 a3q37 k3q37 a4q37 k4q37 a1q31 k1q31 a3q53 k3q53 a4q53 k4q53 a5q53 k5q53 a6q53 k6q53).toArray, .agg #[.I 15, .I 1, .I 0, .int .u64 0, .int .u64 0, .int .u64 0, .int .u64 0, .int .u64 0, .bool true, .bool false, .slice none 0 0, .slice none 0 0, .slice none 0 0, .int .u64 ((((chkAt [1#8, 2#8, 3#8] 1 1 0).head).id).version), .I ((((chkAt [1#8, 2#8, 3#8] 1 1 0).head).id).index), .int .u64 ((((chkAt [1#8, 2#8, 3#8] 1 1 0).head).id).epoch), .I (((chkAt [1#8, 2#8, 3#8] 1 1 0).head).kk), .I (((chkAt [1#8, 2#8, 3#8] 1 1 0).head).nn), .I (((chkAt [1#8, 2#8, 3#8] 1 1 0).head).size), .int .u32 (((((chkAt [1#8, 2#8, 3#8] 1 1 0).head).sum).toNat : Nat) : Int), .slice a1q131 ((chkAt [1#8, 2#8, 3#8] 1 1 0).data.length) k1q131, .int .u64 0, .int .u64 0, .I 0, .string (⟨#[]⟩), .I 0, .slice none 0 0]] (mgot_done (s := s29) (shf_mk (y0 := s29.read) (y3 := s29.write) (rd_mkB (by unfold rdB; omega) (H.rp 17 rfl) (H.rp 16 rfl) (H.rp 15 rfl)) (H.rp 14 rfl) u64a (wr_mkV u64a u64a ⟨rfl, by first | assumption | (simp [maxLen]; done) | decide⟩ (H.rp 13 rfl) (H.rp 12 rfl) (H.rp 11 rfl) (H.rp 10 rfl) i64a i64a i64a) Shape.bool_mk i64a) (xs := [1#8, 2#8, 3#8]) (k := 1) (n := 1) (hs30 ▸ h22_of) (by rw [hs30]; rfl) (by rw [hs30]; rfl) 1 ((chkAt [1#8, 2#8, 3#8] 1 1 0).head) true (dt := (chkAt [1#8, 2#8, 3#8] 1 1 0).data) (H.rp 0 rfl) (.I 0) (.int .u64 0) (.int .u64 0) (.int .u64 0) (.int .u64 0) (.int .u64 0) (.bool false) (.slice none 0 0) (.slice none 0 0) (.slice none 0 0) (.int .u64 0) (.int .u64 0) (.I 0) (.string (⟨#[]⟩)) (.I 0) (.slice none 0 0) (by rw [hs30]; decide) (by decide +kernel) (good_own 0 rfl rfl) (hs30 ▸ h22_one) (by rw [hs30]; rfl) (by rw [hs30]; rfl) (by rw [hs30]; decide)) ?_
     rintro _ w201 hE203 ⟨cs202, a210, c211, D208, rfl, hr204, hr212, hD209⟩
     have H0s := H
     obtain ⟨s205, hs206⟩ : ∃ s_ : Shf, s_ = { s29 with read := D208, write := wrOf D208 s29.to s29.epoch [1#8, 2#8, 3#8] 1 1, ready := true, done := if D208.done = 2 then D208.done else s29.done } := ⟨_, rfl⟩
     rw [← hs206] at hr204
     have hlaw207 : s205 = mdoneR s29 1 ((chkAt [1#8, 2#8, 3#8] 1 1 0).head) ((chkAt [1#8, 2#8, 3#8] 1 1 0).data) true [1#8, 2#8, 3#8] 1 1 := by rw [hs206, hD209]; rfl
     rw [show (if D208.done = 2 then D208.done else s29.done) = s205.done by rw [hs206], show wrOf D208 s29.to s29.epoch [1#8, 2#8, 3#8] 1 1 = s205.write by rw [hs206]]
     rw [show wrOf D208 s29.to s29.epoch [1#8, 2#8, 3#8] 1 1 = s205.write by rw [hs206]] at hr212
     obtain ⟨cs0q213, a1q213, k1q213, cs3q213, rfl, hf214, hf215, hf216, hf217, hf218⟩ := shf_open hr204
     obtain ⟨cs0q219, a3q219, k3q219, a4q219, k4q219, rfl, hf220, hf221, hf222, hf223, hf224, hf225, hf226, hf227⟩ := rd_open hf214
     obtain ⟨a6q228, k6q228, rfl, hf229, hf230, hf231, hf232, hf233, hf234⟩ := obj_open hf220
     obtain ⟨a3q235, k3q235, a4q235, k4q235, a5q235, k5q235, a6q235, k6q235, rfl, hf236, hf237, hf238, hf239, hf240, hf241, hf242, hf243, hf244, hf245⟩ := wr_open hf217
     have H := H.addN hE203 (F := Rp (Shape.slice msgS) [.slice a210 (msgsOf s205.write).length c211] (msgsOf s205.write)) hr212
     have H := H.add (F := Rp (Shape.slice (Shape.int .i64)) [.slice a6q228 s205.read.object.nodes.length k6q228] s205.read.object.nodes) ((H0s.addN hE203 (F := Rp (Shape.slice (Shape.int .i64)) [.slice a6q228 s205.read.object.nodes.length k6q228] s205.read.object.nodes) hf234).rp 0 rfl)
     have H := H.add (F := Rp (Shape.slice pcS) [.slice a3q219 s205.read.pieces.length k3q219] s205.read.pieces) ((H0s.addN hE203 (F := Rp (Shape.slice pcS) [.slice a3q219 s205.read.pieces.length k3q219] s205.read.pieces) hf223).rp 0 rfl)
     have H := H.add (F := Rp (Shape.slice (Shape.int .i64)) [.slice a4q219 s205.read.bad.length k4q219] s205.read.bad) ((H0s.addN hE203 (F := Rp (Shape.slice (Shape.int .i64)) [.slice a4q219 s205.read.bad.length k4q219] s205.read.bad) hf224).rp 0 rfl)
     have H := H.add (F := Rp (Shape.slice (Shape.int .i64)) [.slice a1q213 s205.to.length k1q213] s205.to) ((H0s.addN hE203 (F := Rp (Shape.slice (Shape.int .i64)) [.slice a1q213 s205.to.length k1q213] s205.to) hf215).rp 0 rfl)
     have H := H.add (F := Rp (Shape.slice hdrS) [.slice a3q235 s205.write.heads.length k3q235] s205.write.heads) ((H0s.addN hE203 (F := Rp (Shape.slice hdrS) [.slice a3q235 s205.write.heads.length k3q235] s205.write.heads) hf239).rp 0 rfl)
     have H := H.add (F := Rp (Shape.slice SB) [.slice a4q235 s205.write.chunks.length k4q235] s205.write.chunks) ((H0s.addN hE203 (F := Rp (Shape.slice SB) [.slice a4q235 s205.write.chunks.length k4q235] s205.write.chunks) hf240).rp 0 rfl)
     have H := H.add (F := Rp (Shape.slice (Shape.int .i64)) [.slice a5q235 s205.write.nodes.length k5q235] s205.write.nodes) ((H0s.addN hE203 (F := Rp (Shape.slice (Shape.int .i64)) [.slice a5q235 s205.write.nodes.length k5q235] s205.write.nodes) hf241).rp 0 rfl)
     have H := H.add (F := Rp (Shape.slice (Shape.int .i64)) [.slice a6q235 s205.write.acks.length k6q235] s205.write.acks) ((H0s.addN hE203 (F := Rp (Shape.slice (Shape.int .i64)) [.slice a6q235 s205.write.acks.length k6q235] s205.write.acks) hf242).rp 0 rfl)
     intro hS
     refine qHP hS 4 [(16, .seq), (17, .qui), (18, .qui)] [(7, .P b197 0), (56, .agg (shfV s205 a6q228 k6q228 a3q219 k3q219 a4q219 k4q219 a1q213 k1q213 a3q235 k3q235 a4q235 k4q235 a5q235 k5q235 a6q235 k6q235).toArray), (57, .slice a210 (msgsOf s205.write).length c211), (58, .I s205.done)] ?_
     refine RH.sto ?_
     refine qWC 118 b197 0 [] (.agg (shfV s205 a6q228 k6q228 a3q219 k3q219 a4q219 k4q219 a1q213 k1q213 a3q235 k3q235 a4q235 k4q235 a5q235 k5q235 a6q235 k6q235).toArray) [(b197, .cells (shfV s205 a6q228 k6q228 a3q219 k3q219 a4q219 k4q219 a1q213 k1q213 a3q235 k3q235 a4q235 k4q235 a5q235 k5q235 a6q235 k6q235).toArray 118 (0, 0)), (b64, .cells (shfV s29 a6q46 k6q46 a3q37 k3q37 a4q37 k4q37 a1q31 k1q31 a3q53 k3q53 a4q53 k4q53 a5q53 k5q53 a6q53 k6q53).toArray 118 (0, 0)), (b17, .cells (objV (objOf ([1#8, 2#8, 3#8] : List (BitVec 8)) 1) a6q10 k6q10).toArray 102 (0, 0))] H 0 rfl rfl ?_
     intro w247 hch246 H
     have hS248 := hS.sto hch246 (.inl hnb199)
     refine ⟨hS248, ?_⟩
     have hS := hS248
     refine RH.fin hS 2 [7, 8, 9] [(7, .P b197 0), (8, .slice a210 (msgsOf s205.write).length c211), (9, .I s205.done)] (by as_aux_lemma => kernel_rfl) ?_
     have H := H.pick [8, 7, 6, 5, 4, 3, 2, 1, 0, 13, 14, 15, 16, 17, 19, 20, 21, 22, 23, 24, 25, 26, 27, 28, 29, 30, 31] rfl
     exact hJ105 (b197, s205, a6q228, k6q228, a3q219, k3q219, a4q219, k4q219, a1q213, k1q213, a3q235, k3q235, a4q235, k4q235, a5q235, k5q235, a6q235, k6q235, a210, c211) _ ⟨H, hlaw207.trans (by rw [hs30]; rfl), by unfold shB wrB rdB; omega, trivial⟩
   ·
    rintro ⟨bj1, sj1, a006j1, k006j1, a03j1, k03j1, a04j1, k04j1, a1j1, k1j1, a33j1, k33j1, a34j1, k34j1, a35j1, k35j1, a36j1, k36j1, maj1, mcj1⟩ w106 ⟨H, hij1⟩
    obtain ⟨hlj1, hBsj1, hxj1⟩ := hij1
    have hBj1 := hBsj1
    unfold shB wrB rdB at hBj1
    have hsj1 := hBj1.1.1
    have hsj1w := hBj1.2.2.1.1
    refine qR 2 [.c [5, 0, 0], .c [5, 0, 1], .c [6]] [(7, .P bj1 0), (8, .slice maj1 (msgsOf sj1.write).length mcj1), (9, .I sj1.done)] ?_
    refine qG (sq 0 23) ?_
    refine qP 3 (sq 3 23) [(7, .P bj1 0), (8, .slice maj1 (msgsOf sj1.write).length mcj1), (61, .bool (sj1.done != 0))] ?_
    refine tN (fun b_ => [(7, .P bj1 0), (8, .slice maj1 (msgsOf sj1.write).length mcj1), (61, .bool b_)]) sj1.done 0 (fun h249 => ?_) (fun h249 => ?_)
    ·
     exact absurd (by rw [hlj1]; exact h22_d) h249
    ·
     refine qP 5 (sq 8 23) [(7, .P bj1 0), (8, .slice maj1 (msgsOf sj1.write).length mcj1), (66, .bool ((((msgsOf sj1.write).length : Nat) : Int) != 1))] ?_
     refine tN (fun b_ => [(7, .P bj1 0), (8, .slice maj1 (msgsOf sj1.write).length mcj1), (66, .bool b_)]) (((msgsOf sj1.write).length : Nat) : Int) 1 (fun h250 => ?_) (fun h250 => ?_)
     ·
      exact absurd (by rw [hlj1]; exact congrArg (fun q : Nat => (q : Int)) h22_ml) h250
     ·
      refine qP 1 (sq 9 23) [(7, .P bj1 0), (8, .slice maj1 (msgsOf sj1.write).length mcj1), (66, .bool false), (67, .slice maj1 (msgsOf sj1.write).length mcj1)] ?_
      have hx251 : 0 < (msgsOf sj1.write).length := by rw [hlj1, h22_ml]; decide
      refine qX .seq 68 (sq 10 23) 33 57 0 msgS h22m H 0 rfl 0 (by omega) (by rw [hlj1]; exact h22_m) ?_
      intro b252 o253 es254 hr255 H
      obtain ⟨a10q256, k10q256, cs11q256, cs12q256, a13q256, k13q256, a19q256, k19q256, rfl, hf257, hf258, hf259, hf260, hf261, hf262, hf263, hf264, hf265, hf266, hf267, hf268, hf269, hf270, hf271, hf272, hf273, hf274⟩ := msg_open hr255
      obtain ⟨a0q275, k0q275, a1q275, k1q275, rfl, hf276, hf277⟩ := conf_open hf266
      obtain ⟨cs0q278, rfl, hf279, hf280, hf281, hf282⟩ := hdr_open hf267
      obtain ⟨rfl, hf284, hf285, hf286⟩ := cid_open hf279
      have H := H.add (F := Rp (Shape.slice entS) [.slice a10q256 h22m.entries.length k10q256] h22m.entries) hf265
      have H := H.add (F := Rp (Shape.slice (Shape.int .i64)) [.slice a0q275 h22m.conf.voters.length k0q275] h22m.conf.voters) hf276
      have H := H.add (F := Rp (Shape.slice (Shape.int .i64)) [.slice a1q275 h22m.conf.learners.length k1q275] h22m.conf.learners) hf277
      have H := H.add (F := Rp SB [.slice a13q256 h22m.data.length k13q256] h22m.data) hf268
      have H := H.add (F := Rp (Shape.slice Shape.str) [.slice a19q256 h22m.names.length k19q256] h22m.names) hf274
      refine qP 1 (sq 11 23) [(7, .P bj1 0), (8, .slice maj1 (msgsOf sj1.write).length mcj1), (66, .bool false), (69, .pointer (some ⟨b252, o253 + 2, none⟩))] ?_
      refine qL .seq 70 (sq 12 23) 3 b252 (o253 + 2) 2 (.I h22m.to) (H.fc 5 rfl) ?_
      refine qP 3 (sq 15 23) [(7, .P bj1 0), (8, .slice maj1 (msgsOf sj1.write).length mcj1), (73, .bool (h22m.to != 2))] ?_
      refine tN (fun b_ => [(7, .P bj1 0), (8, .slice maj1 (msgsOf sj1.write).length mcj1), (73, .bool b_)]) h22m.to 2 (fun h287 => ?_) (fun h287 => ?_)
      ·
       exact absurd h22_to h287
      ·
       refine qP 1 (sq 16 23) [(7, .P bj1 0), (8, .slice maj1 (msgsOf sj1.write).length mcj1), (73, .bool false), (74, .slice maj1 (msgsOf sj1.write).length mcj1)] ?_
       have hx288 : 0 < (msgsOf sj1.write).length := by rw [hlj1, h22_ml]; decide
       refine qX .seq 75 (sq 17 23) 33 57 0 msgS h22m H 6 rfl 0 (by omega) (by rw [hlj1]; exact h22_m) ?_
       intro b289 o290 es291 hr292 H
       obtain ⟨a10q293, k10q293, cs11q293, cs12q293, a13q293, k13q293, a19q293, k19q293, rfl, hf294, hf295, hf296, hf297, hf298, hf299, hf300, hf301, hf302, hf303, hf304, hf305, hf306, hf307, hf308, hf309, hf310, hf311⟩ := msg_open hr292
       obtain ⟨a0q312, k0q312, a1q312, k1q312, rfl, hf313, hf314⟩ := conf_open hf303
       obtain ⟨cs0q315, rfl, hf316, hf317, hf318, hf319⟩ := hdr_open hf304
       obtain ⟨rfl, hf321, hf322, hf323⟩ := cid_open hf316
       have H := H.add (F := Rp (Shape.slice entS) [.slice a10q293 h22m.entries.length k10q293] h22m.entries) hf302
       have H := H.add (F := Rp (Shape.slice (Shape.int .i64)) [.slice a0q312 h22m.conf.voters.length k0q312] h22m.conf.voters) hf313
       have H := H.add (F := Rp (Shape.slice (Shape.int .i64)) [.slice a1q312 h22m.conf.learners.length k1q312] h22m.conf.learners) hf314
       have H := H.add (F := Rp SB [.slice a13q293 h22m.data.length k13q293] h22m.data) hf305
       have H := H.add (F := Rp (Shape.slice Shape.str) [.slice a19q293 h22m.names.length k19q293] h22m.names) hf311
       refine qP 3 (sq 20 23) [(7, .P bj1 0), (8, .slice maj1 (msgsOf sj1.write).length mcj1), (73, .bool false), (78, .pointer (some ⟨b289, o290 + 15, none⟩))] ?_
       refine qL .seq 79 (sq 21 23) 22 b289 (o290 + 15) 15 (.int .u64 h22m.head.id.epoch) (H.fc 5 rfl) ?_
       refine qF 2 [(7, .P bj1 0), (8, .slice maj1 (msgsOf sj1.write).length mcj1), (81, .bool (h22m.head.id.epoch != 3))] ?_
       refine qN h22m.head.id.epoch 3 (fun h324 => ?_) (fun h324 => ?_)
       ·
        exact absurd h22_ep h324
       ·
        refine qR 2 [.c [6, 0], .c [7]] [(7, .P bj1 0), (8, .slice maj1 (msgsOf sj1.write).length mcj1)] ?_
        refine WK.joinV (α := Shf) (fun x_ w_ => match x_ with | sj2 => Hp w S [] [(bj1, .cells (shfV sj1 a006j1 k006j1 a03j1 k03j1 a04j1 k04j1 a1j1 k1j1 a33j1 k33j1 a34j1 k34j1 a35j1 k35j1 a36j1 k36j1).toArray 118 (0, 0)), (b64, .cells (shfV s29 a6q46 k6q46 a3q37 k3q37 a4q37 k4q37 a1q31 k1q31 a3q53 k3q53 a4q53 k4q53 a5q53 k5q53 a6q53 k6q53).toArray 118 (0, 0)), (b17, .cells (objV (objOf ([1#8, 2#8, 3#8] : List (BitVec 8)) 1) a6q10 k6q10).toArray 102 (0, 0))] [] [Rp (Shape.slice Shape.str) [.slice a19q293 h22m.names.length k19q293] h22m.names, Rp SB [.slice a13q293 h22m.data.length k13q293] h22m.data, Rp (Shape.slice (Shape.int .i64)) [.slice a1q312 h22m.conf.learners.length k1q312] h22m.conf.learners, Rp (Shape.slice (Shape.int .i64)) [.slice a0q312 h22m.conf.voters.length k0q312] h22m.conf.voters, Rp (Shape.slice entS) [.slice a10q293 h22m.entries.length k10q293] h22m.entries, Rp (Shape.slice Shape.str) [.slice a19q256 h22m.names.length k19q256] h22m.names, Rp SB [.slice a13q256 h22m.data.length k13q256] h22m.data, Rp (Shape.slice (Shape.int .i64)) [.slice a1q275 h22m.conf.learners.length k1q275] h22m.conf.learners, Rp (Shape.slice (Shape.int .i64)) [.slice a0q275 h22m.conf.voters.length k0q275] h22m.conf.voters, Rp (Shape.slice entS) [.slice a10q256 h22m.entries.length k10q256] h22m.entries, Rp (Shape.slice msgS) [.slice maj1 (msgsOf sj1.write).length mcj1] (msgsOf sj1.write), Rp (Shape.slice (Shape.int .i64)) [.slice a006j1 sj1.read.object.nodes.length k006j1] sj1.read.object.nodes, Rp (Shape.slice pcS) [.slice a03j1 sj1.read.pieces.length k03j1] sj1.read.pieces, Rp (Shape.slice (Shape.int .i64)) [.slice a04j1 sj1.read.bad.length k04j1] sj1.read.bad, Rp (Shape.slice (Shape.int .i64)) [.slice a1j1 sj1.to.length k1j1] sj1.to, Rp (Shape.slice hdrS) [.slice a33j1 sj1.write.heads.length k33j1] sj1.write.heads, Rp (Shape.slice SB) [.slice a34j1 sj1.write.chunks.length k34j1] sj1.write.chunks, Rp (Shape.slice (Shape.int .i64)) [.slice a35j1 sj1.write.nodes.length k35j1] sj1.write.nodes, Rp (Shape.slice (Shape.int .i64)) [.slice a36j1 sj1.write.acks.length k36j1] sj1.write.acks, Rp (Shape.slice Shape.str) [.slice a19q73 ((askOf h22s.read 0).names.length) k19q73] ((askOf h22s.read 0).names), Rp SB [.slice a13q73 ((askOf h22s.read 0).data.length) k13q73] ((askOf h22s.read 0).data), Rp (Shape.slice (Shape.int .i64)) [.slice a1q92 (((askOf h22s.read 0).conf).learners.length) k1q92] (((askOf h22s.read 0).conf).learners), Rp (Shape.slice (Shape.int .i64)) [.slice a0q92 (((askOf h22s.read 0).conf).voters.length) k0q92] (((askOf h22s.read 0).conf).voters), Rp (Shape.slice entS) [.slice a10q73 ((askOf h22s.read 0).entries.length) k10q73] ((askOf h22s.read 0).entries), Rp (Shape.slice (Shape.int .i64)) [.slice a6q53 s29.write.acks.length k6q53] s29.write.acks, Rp (Shape.slice (Shape.int .i64)) [.slice a5q53 s29.write.nodes.length k5q53] s29.write.nodes, Rp (Shape.slice SB) [.slice a4q53 s29.write.chunks.length k4q53] s29.write.chunks, Rp (Shape.slice hdrS) [.slice a3q53 s29.write.heads.length k3q53] s29.write.heads, Rp (Shape.slice (Shape.int .i64)) [.slice a1q31 s29.to.length k1q31] s29.to, Rp (Shape.slice (Shape.int .i64)) [.slice a4q37 s29.read.bad.length k4q37] s29.read.bad, Rp (Shape.slice pcS) [.slice a3q37 s29.read.pieces.length k3q37] s29.read.pieces, Rp (Shape.slice (Shape.int .i64)) [.slice a6q46 s29.read.object.nodes.length k6q46] s29.read.object.nodes, Rp (Shape.slice msgS) [.slice a24 ((asksR (beginR (objOf ([1#8, 2#8, 3#8] : List (BitVec 8)) 1) 1 1 10)).length) c25] (asksR (beginR (objOf ([1#8, 2#8, 3#8] : List (BitVec 8)) 1) 1 1 10)), Rp (Shape.slice (Shape.int .i64)) [.slice (some ⟨b20, 0, none⟩) 1 1] ([2] : List Int), Rp (Shape.slice (Shape.int .i64)) [.slice a6q10 ((objOf ([1#8, 2#8, 3#8] : List (BitVec 8)) 1).nodes.length) k6q10] ((objOf ([1#8, 2#8, 3#8] : List (BitVec 8)) 1).nodes), Rp (Shape.slice chkS) [.slice a5 ((chksOf ([1#8, 2#8, 3#8] : List (BitVec 8)) 1 1).length) c6] (chksOf ([1#8, 2#8, 3#8] : List (BitVec 8)) 1 1), Rp SB [.slice (some ⟨b1, 0, none⟩) 3 3] ([1#8, 2#8, 3#8] : List (BitVec 8))] w_ ∧ sj2 = mwriteR h22t 2 h22m.head true) (fun x_ => match x_ with | sj2 => [(12, .I sj2.done)]) [Cq Try.prog 51 [7]] (fun hJ325 => ?_) ?_
        ·
         refine WK.drawH1 [] (.node (qs [0, 1, 2, 3, 4, 5]) (.cons 6 (.leaf [(7, .qui), (8, .qui), (9, .qui), (10, .qui), (11, .seq), (12, .seq), (13, .qui), (14, .qui)]) (.cons 11 (.leaf [(6, .seq), (7, .qui), (8, .qui), (9, .qui), (10, .qui), (12, .seq), (13, .qui), (14, .qui)]) .nil))) Try_mixed (by as_aux_lemma => kernel_rfl) (by as_aux_lemma => kernel_rfl) ?_
         intro w327 hw328
         have H := H.draw
         rw [← hw328] at H
         clear hw328
         have hS := Chg.refl w327 []
         refine RG.node' (qs [0, 1, 2, 3, 4, 5]) (by as_aux_lemma => kernel_rfl) ?_
         refine RH.load (d := some 83) (r := (qs [1, 2, 3, 4, 5])) (T := 118) (b := bj1) (o' := 0) (k := 0) (v := .agg (shfV sj1 a006j1 k006j1 a03j1 k03j1 a04j1 k04j1 a1j1 k1j1 a33j1 k33j1 a34j1 k34j1 a35j1 k35j1 a36j1 k36j1).toArray) (by as_aux_lemma => kernel_rfl) hS (H.cells 0 rfl) (by simp) (by simp) rfl (by as_aux_lemma => kernel_rfl) ?_
         refine qHP hS 1 (qs [2, 3, 4, 5]) [(83, .agg (shfV sj1 a006j1 k006j1 a03j1 k03j1 a04j1 k04j1 a1j1 k1j1 a33j1 k33j1 a34j1 k34j1 a35j1 k35j1 a36j1 k36j1).toArray), (84, .slice maj1 (msgsOf sj1.write).length mcj1)] ?_
         have hx329 : 0 < (msgsOf sj1.write).length := by rw [hlj1, h22_ml]; decide
         refine RH.index (d := some 85) (r := (qs [3, 4, 5])) (T := 33) (e := 57) (ik := .i64) (ix := 0) (sh := msgS) (x := h22m) (by as_aux_lemma => kernel_rfl) hS (by as_aux_lemma => kernel_rfl) H 12 rfl 0 (by omega) (by rw [hlj1]; exact h22_m) ?_
         intro b330 o331 es332 hr333 H
         obtain ⟨a10q334, k10q334, cs11q334, cs12q334, a13q334, k13q334, a19q334, k19q334, rfl, hf335, hf336, hf337, hf338, hf339, hf340, hf341, hf342, hf343, hf344, hf345, hf346, hf347, hf348, hf349, hf350, hf351, hf352⟩ := msg_open hr333
         obtain ⟨a0q353, k0q353, a1q353, k1q353, rfl, hf354, hf355⟩ := conf_open hf344
         obtain ⟨cs0q356, rfl, hf357, hf358, hf359, hf360⟩ := hdr_open hf345
         obtain ⟨rfl, hf362, hf363, hf364⟩ := cid_open hf357
         have H := H.add (F := Rp (Shape.slice entS) [.slice a10q334 h22m.entries.length k10q334] h22m.entries) hf343
         have H := H.add (F := Rp (Shape.slice (Shape.int .i64)) [.slice a0q353 h22m.conf.voters.length k0q353] h22m.conf.voters) hf354
         have H := H.add (F := Rp (Shape.slice (Shape.int .i64)) [.slice a1q353 h22m.conf.learners.length k1q353] h22m.conf.learners) hf355
         have H := H.add (F := Rp SB [.slice a13q334 h22m.data.length k13q334] h22m.data) hf346
         have H := H.add (F := Rp (Shape.slice Shape.str) [.slice a19q334 h22m.names.length k19q334] h22m.names) hf352
         refine qHP hS 1 (qs [4, 5]) [(83, .agg (shfV sj1 a006j1 k006j1 a03j1 k03j1 a04j1 k04j1 a1j1 k1j1 a33j1 k33j1 a34j1 k34j1 a35j1 k35j1 a36j1 k36j1).toArray), (86, .pointer (some ⟨b330, o331 + 13, none⟩))] ?_
         refine RH.load (d := some 87) (r := [(5, .qui)]) (T := 53) (b := b330) (o' := o331 + 13) (k := 13) (v := .agg (hdrV h22m.head).toArray) (by as_aux_lemma => kernel_rfl) hS (H.fc 5 rfl) (by simp) (by simp) rfl (by as_aux_lemma => kernel_rfl) ?_
         refine RH.finB hS 1 [83, 88] [(83, .agg (shfV sj1 a006j1 k006j1 a03j1 k03j1 a04j1 k04j1 a1j1 k1j1 a33j1 k33j1 a34j1 k34j1 a35j1 k35j1 a36j1 k36j1).toArray), (88, .agg #[.I 10, .I 2, .I 0, .int .u64 0, .int .u64 0, .int .u64 0, .int .u64 0, .int .u64 0, .bool true, .bool false, .slice none 0 0, .slice none 0 0, .slice none 0 0, .int .u64 h22m.head.id.version, .I h22m.head.id.index, .int .u64 h22m.head.id.epoch, .I h22m.head.kk, .I h22m.head.nn, .I h22m.head.size, .int .u32 ((h22m.head.sum.toNat : Nat) : Int), .slice none 0 0, .int .u64 0, .int .u64 0, .I 0, .string (⟨#[]⟩), .I 0, .slice none 0 0])] (by as_aux_lemma => kernel_rfl) ?_
         refine (RGB.cons' ?_ (RGB.cons' ?_ RGB.nil'))
         ·
          refine RG.leaf' [(6, .seq), (7, .qui), (8, .qui), (9, .qui), (10, .qui), (11, .seq), (12, .seq), (13, .qui), (14, .qui)] (by as_aux_lemma => kernel_rfl) ?_
          have Hr := H
          refine RH.chn hS ?_
          refine qK .chn (some 89) [] 54 #[.agg (shfV sj1 a006j1 k006j1 a03j1 k03j1 a04j1 k04j1 a1j1 k1j1 a33j1 k33j1 a34j1 k34j1 a35j1 k35j1 a36j1 k36j1).toArray, .agg #[.I 10, .I 2, .I 0, .int .u64 0, .int .u64 0, .int .u64 0, .int .u64 0, .int .u64 0, .bool true, .bool false, .slice none 0 0, .slice none 0 0, .slice none 0 0, .int .u64 h22m.head.id.version, .I h22m.head.id.index, .int .u64 h22m.head.id.epoch, .I h22m.head.kk, .I h22m.head.nn, .I h22m.head.size, .int .u32 ((h22m.head.sum.toNat : Nat) : Int), .slice none 0 0, .int .u64 0, .int .u64 0, .I 0, .string (⟨#[]⟩), .I 0, .slice none 0 0]] (mgot_ready (s := sj1) (shf_mk (y0 := sj1.read) (y3 := sj1.write) (rd_mkB (by unfold rdB; omega) (H.rp 19 rfl) (H.rp 20 rfl) (H.rp 21 rfl)) (H.rp 22 rfl) u64a (wr_mkV u64a u64a ⟨rfl, hsj1w⟩ (H.rp 23 rfl) (H.rp 24 rfl) (H.rp 25 rfl) (H.rp 26 rfl) i64a i64a i64a) Shape.bool_mk i64a) (by rw [hlj1]; exact h22_d) (by rw [hlj1]; rfl) 2 h22m.head true (.I 0) (.int .u64 0) (.int .u64 0) (.int .u64 0) (.int .u64 0) (.int .u64 0) (.bool false) (.slice none 0 0) (.slice none 0 0) (.slice none 0 0) (.slice none 0 0) (.int .u64 0) (.int .u64 0) (.I 0) (.string (⟨#[]⟩)) (.I 0) (.slice none 0 0) (by rw [hlj1]; exact h22_hl) (fun e he => by rw [← he, hlj1]; exact h22_e ▸ (by decide))) ?_
          rintro _ w366 hE368 ⟨cs367, W374, e375, rfl, hr369, hl376⟩
          have H0s := H
          obtain ⟨s370, hs371⟩ : ∃ s_ : Shf, s_ = { sj1 with write := W374, done := e375 } := ⟨_, rfl⟩
          rw [← hs371] at hr369
          have hlaw372 : s370 = mwriteR sj1 2 h22m.head true := hs371.trans (mwriteR_eq hl376)
          rw [show e375 = s370.done by rw [hs371]]
          obtain ⟨cs0q377, a1q377, k1q377, cs3q377, rfl, hf378, hf379, hf380, hf381, hf382⟩ := shf_open hr369
          obtain ⟨cs0q383, a3q383, k3q383, a4q383, k4q383, rfl, hf384, hf385, hf386, hf387, hf388, hf389, hf390, hf391⟩ := rd_open hf378
          obtain ⟨a6q392, k6q392, rfl, hf393, hf394, hf395, hf396, hf397, hf398⟩ := obj_open hf384
          obtain ⟨a3q399, k3q399, a4q399, k4q399, a5q399, k5q399, a6q399, k6q399, rfl, hf400, hf401, hf402, hf403, hf404, hf405, hf406, hf407, hf408, hf409⟩ := wr_open hf381
          have H := H.addN hE368 (F := Rp (Shape.slice (Shape.int .i64)) [.slice a6q392 s370.read.object.nodes.length k6q392] s370.read.object.nodes) hf398
          have H := H.add (F := Rp (Shape.slice pcS) [.slice a3q383 s370.read.pieces.length k3q383] s370.read.pieces) ((H0s.addN hE368 (F := Rp (Shape.slice pcS) [.slice a3q383 s370.read.pieces.length k3q383] s370.read.pieces) hf387).rp 0 rfl)
          have H := H.add (F := Rp (Shape.slice (Shape.int .i64)) [.slice a4q383 s370.read.bad.length k4q383] s370.read.bad) ((H0s.addN hE368 (F := Rp (Shape.slice (Shape.int .i64)) [.slice a4q383 s370.read.bad.length k4q383] s370.read.bad) hf388).rp 0 rfl)
          have H := H.add (F := Rp (Shape.slice (Shape.int .i64)) [.slice a1q377 s370.to.length k1q377] s370.to) ((H0s.addN hE368 (F := Rp (Shape.slice (Shape.int .i64)) [.slice a1q377 s370.to.length k1q377] s370.to) hf379).rp 0 rfl)
          have H := H.add (F := Rp (Shape.slice hdrS) [.slice a3q399 s370.write.heads.length k3q399] s370.write.heads) ((H0s.addN hE368 (F := Rp (Shape.slice hdrS) [.slice a3q399 s370.write.heads.length k3q399] s370.write.heads) hf403).rp 0 rfl)
          have H := H.add (F := Rp (Shape.slice SB) [.slice a4q399 s370.write.chunks.length k4q399] s370.write.chunks) ((H0s.addN hE368 (F := Rp (Shape.slice SB) [.slice a4q399 s370.write.chunks.length k4q399] s370.write.chunks) hf404).rp 0 rfl)
          have H := H.add (F := Rp (Shape.slice (Shape.int .i64)) [.slice a5q399 s370.write.nodes.length k5q399] s370.write.nodes) ((H0s.addN hE368 (F := Rp (Shape.slice (Shape.int .i64)) [.slice a5q399 s370.write.nodes.length k5q399] s370.write.nodes) hf405).rp 0 rfl)
          have H := H.add (F := Rp (Shape.slice (Shape.int .i64)) [.slice a6q399 s370.write.acks.length k6q399] s370.write.acks) ((H0s.addN hE368 (F := Rp (Shape.slice (Shape.int .i64)) [.slice a6q399 s370.write.acks.length k6q399] s370.write.acks) hf406).rp 0 rfl)
          intro hS
          refine qHP hS 4 [(11, .seq), (12, .seq), (13, .qui), (14, .qui)] [(90, .agg (shfV s370 a6q392 k6q392 a3q383 k3q383 a4q383 k4q383 a1q377 k1q377 a3q399 k3q399 a4q399 k4q399 a5q399 k5q399 a6q399 k6q399).toArray), (91, .slice none 0 0), (92, .I s370.done)] ?_
          refine RH.chn hS ?_
          refine RW.newC (κ := .chn) (d := some 10) (r := []) (o := .cells (shfZ).toArray 118 (0, 0)) (v := fun b => .P b 0) (fun b => by as_aux_lemma => kernel_rfl) (nofun) H ?_
          intro b411 w412 hnw410 H
          have hnb413 := Nat.le_trans hS.size hnw410
          intro hS
          refine RH.sto ?_
          refine qWC 118 b411 0 [] (.agg (shfV s370 a6q392 k6q392 a3q383 k3q383 a4q383 k4q383 a1q377 k1q377 a3q399 k3q399 a4q399 k4q399 a5q399 k5q399 a6q399 k6q399).toArray) [(b411, .cells (shfV s370 a6q392 k6q392 a3q383 k3q383 a4q383 k4q383 a1q377 k1q377 a3q399 k3q399 a4q399 k4q399 a5q399 k5q399 a6q399 k6q399).toArray 118 (0, 0)), (bj1, .cells (shfV sj1 a006j1 k006j1 a03j1 k03j1 a04j1 k04j1 a1j1 k1j1 a33j1 k33j1 a34j1 k34j1 a35j1 k35j1 a36j1 k36j1).toArray 118 (0, 0)), (b64, .cells (shfV s29 a6q46 k6q46 a3q37 k3q37 a4q37 k4q37 a1q31 k1q31 a3q53 k3q53 a4q53 k4q53 a5q53 k5q53 a6q53 k6q53).toArray 118 (0, 0)), (b17, .cells (objV (objOf ([1#8, 2#8, 3#8] : List (BitVec 8)) 1) a6q10 k6q10).toArray 102 (0, 0))] H 0 rfl rfl ?_
          intro w415 hch414 H
          have hS416 := hS.sto hch414 (.inl hnb413)
          refine ⟨hS416, ?_⟩
          have hS := hS416
          refine RH.fin hS 2 [12] [(12, .I s370.done)] (by as_aux_lemma => kernel_rfl) ?_
          have H := H.pick [14, 15, 16, 17, 18, 20, 21, 22, 23, 24, 26, 27, 28, 29, 30, 31, 32, 33, 34, 35, 36, 37, 38, 39, 40, 41, 42, 43, 44, 45, 46, 47, 48, 49, 50, 51, 52] rfl
          have H := H.frontM 3 (M' := [(b17, .cells (objV (objOf ([1#8, 2#8, 3#8] : List (BitVec 8)) 1) a6q10 k6q10).toArray 102 (0, 0)), (b411, .cells (shfV s370 a6q392 k6q392 a3q383 k3q383 a4q383 k4q383 a1q377 k1q377 a3q399 k3q399 a4q399 k4q399 a5q399 k5q399 a6q399 k6q399).toArray 118 (0, 0)), (bj1, .cells (shfV sj1 a006j1 k006j1 a03j1 k03j1 a04j1 k04j1 a1j1 k1j1 a33j1 k33j1 a34j1 k34j1 a35j1 k35j1 a36j1 k36j1).toArray 118 (0, 0)), (b64, .cells (shfV s29 a6q46 k6q46 a3q37 k3q37 a4q37 k4q37 a1q31 k1q31 a3q53 k3q53 a4q53 k4q53 a5q53 k5q53 a6q53 k6q53).toArray 118 (0, 0))]) rfl
          have H := H.frontM 3 (M' := [(b64, .cells (shfV s29 a6q46 k6q46 a3q37 k3q37 a4q37 k4q37 a1q31 k1q31 a3q53 k3q53 a4q53 k4q53 a5q53 k5q53 a6q53 k6q53).toArray 118 (0, 0)), (b17, .cells (objV (objOf ([1#8, 2#8, 3#8] : List (BitVec 8)) 1) a6q10 k6q10).toArray 102 (0, 0)), (b411, .cells (shfV s370 a6q392 k6q392 a3q383 k3q383 a4q383 k4q383 a1q377 k1q377 a3q399 k3q399 a4q399 k4q399 a5q399 k5q399 a6q399 k6q399).toArray 118 (0, 0)), (bj1, .cells (shfV sj1 a006j1 k006j1 a03j1 k03j1 a04j1 k04j1 a1j1 k1j1 a33j1 k33j1 a34j1 k34j1 a35j1 k35j1 a36j1 k36j1).toArray 118 (0, 0))]) rfl
          have H := H.frontM 3 (M' := [(bj1, .cells (shfV sj1 a006j1 k006j1 a03j1 k03j1 a04j1 k04j1 a1j1 k1j1 a33j1 k33j1 a34j1 k34j1 a35j1 k35j1 a36j1 k36j1).toArray 118 (0, 0)), (b64, .cells (shfV s29 a6q46 k6q46 a3q37 k3q37 a4q37 k4q37 a1q31 k1q31 a3q53 k3q53 a4q53 k4q53 a5q53 k5q53 a6q53 k6q53).toArray 118 (0, 0)), (b17, .cells (objV (objOf ([1#8, 2#8, 3#8] : List (BitVec 8)) 1) a6q10 k6q10).toArray 102 (0, 0)), (b411, .cells (shfV s370 a6q392 k6q392 a3q383 k3q383 a4q383 k4q383 a1q377 k1q377 a3q399 k3q399 a4q399 k4q399 a5q399 k5q399 a6q399 k6q399).toArray 118 (0, 0))]) rfl
          have H := H.drop (M' := [(bj1, .cells (shfV sj1 a006j1 k006j1 a03j1 k03j1 a04j1 k04j1 a1j1 k1j1 a33j1 k33j1 a34j1 k34j1 a35j1 k35j1 a36j1 k36j1).toArray 118 (0, 0)), (b64, .cells (shfV s29 a6q46 k6q46 a3q37 k3q37 a4q37 k4q37 a1q31 k1q31 a3q53 k3q53 a4q53 k4q53 a5q53 k5q53 a6q53 k6q53).toArray 118 (0, 0)), (b17, .cells (objV (objOf ([1#8, 2#8, 3#8] : List (BitVec 8)) 1) a6q10 k6q10).toArray 102 (0, 0))]) (W' := []) (by repeat (first | exact List.Sublist.refl _ | exact List.nil_sublist _ | apply List.Sublist.cons_cons | apply List.Sublist.cons)) (by repeat (first | exact List.Sublist.refl _ | exact List.nil_sublist _ | apply List.Sublist.cons_cons | apply List.Sublist.cons))
          exact hJ325 (s370) _ ⟨H, hlaw372.trans (by rw [hlj1])⟩
         ·
          refine RG.leaf' [(11, .seq), (6, .seq), (7, .qui), (8, .qui), (9, .qui), (10, .qui), (12, .seq), (13, .qui), (14, .qui)] (by as_aux_lemma => kernel_rfl) ?_
          have Hr := H
          refine RH.chn hS ?_
          refine RW.newC (κ := .chn) (d := some 10) (r := []) (o := .cells (shfZ).toArray 118 (0, 0)) (v := fun b => .P b 0) (fun b => by as_aux_lemma => kernel_rfl) (nofun) H ?_
          intro b418 w419 hnw417 H
          have hnb420 := Nat.le_trans hS.size hnw417
          intro hS
          refine RH.chn hS ?_
          refine qK .chn (some 89) [] 54 #[.agg (shfV sj1 a006j1 k006j1 a03j1 k03j1 a04j1 k04j1 a1j1 k1j1 a33j1 k33j1 a34j1 k34j1 a35j1 k35j1 a36j1 k36j1).toArray, .agg #[.I 10, .I 2, .I 0, .int .u64 0, .int .u64 0, .int .u64 0, .int .u64 0, .int .u64 0, .bool true, .bool false, .slice none 0 0, .slice none 0 0, .slice none 0 0, .int .u64 h22m.head.id.version, .I h22m.head.id.index, .int .u64 h22m.head.id.epoch, .I h22m.head.kk, .I h22m.head.nn, .I h22m.head.size, .int .u32 ((h22m.head.sum.toNat : Nat) : Int), .slice none 0 0, .int .u64 0, .int .u64 0, .I 0, .string (⟨#[]⟩), .I 0, .slice none 0 0]] (mgot_ready (s := sj1) (shf_mk (y0 := sj1.read) (y3 := sj1.write) (rd_mkB (by unfold rdB; omega) (H.rp 19 rfl) (H.rp 20 rfl) (H.rp 21 rfl)) (H.rp 22 rfl) u64a (wr_mkV u64a u64a ⟨rfl, hsj1w⟩ (H.rp 23 rfl) (H.rp 24 rfl) (H.rp 25 rfl) (H.rp 26 rfl) i64a i64a i64a) Shape.bool_mk i64a) (by rw [hlj1]; exact h22_d) (by rw [hlj1]; rfl) 2 h22m.head true (.I 0) (.int .u64 0) (.int .u64 0) (.int .u64 0) (.int .u64 0) (.int .u64 0) (.bool false) (.slice none 0 0) (.slice none 0 0) (.slice none 0 0) (.slice none 0 0) (.int .u64 0) (.int .u64 0) (.I 0) (.string (⟨#[]⟩)) (.I 0) (.slice none 0 0) (by rw [hlj1]; exact h22_hl) (fun e he => by rw [← he, hlj1]; exact h22_e ▸ (by decide))) ?_
          rintro _ w422 hE424 ⟨cs423, W430, e431, rfl, hr425, hl432⟩
          have H0s := H
          obtain ⟨s426, hs427⟩ : ∃ s_ : Shf, s_ = { sj1 with write := W430, done := e431 } := ⟨_, rfl⟩
          rw [← hs427] at hr425
          have hlaw428 : s426 = mwriteR sj1 2 h22m.head true := hs427.trans (mwriteR_eq hl432)
          rw [show e431 = s426.done by rw [hs427]]
          obtain ⟨cs0q433, a1q433, k1q433, cs3q433, rfl, hf434, hf435, hf436, hf437, hf438⟩ := shf_open hr425
          obtain ⟨cs0q439, a3q439, k3q439, a4q439, k4q439, rfl, hf440, hf441, hf442, hf443, hf444, hf445, hf446, hf447⟩ := rd_open hf434
          obtain ⟨a6q448, k6q448, rfl, hf449, hf450, hf451, hf452, hf453, hf454⟩ := obj_open hf440
          obtain ⟨a3q455, k3q455, a4q455, k4q455, a5q455, k5q455, a6q455, k6q455, rfl, hf456, hf457, hf458, hf459, hf460, hf461, hf462, hf463, hf464, hf465⟩ := wr_open hf437
          have H := H.addN hE424 (F := Rp (Shape.slice (Shape.int .i64)) [.slice a6q448 s426.read.object.nodes.length k6q448] s426.read.object.nodes) hf454
          have H := H.add (F := Rp (Shape.slice pcS) [.slice a3q439 s426.read.pieces.length k3q439] s426.read.pieces) ((H0s.addN hE424 (F := Rp (Shape.slice pcS) [.slice a3q439 s426.read.pieces.length k3q439] s426.read.pieces) hf443).rp 0 rfl)
          have H := H.add (F := Rp (Shape.slice (Shape.int .i64)) [.slice a4q439 s426.read.bad.length k4q439] s426.read.bad) ((H0s.addN hE424 (F := Rp (Shape.slice (Shape.int .i64)) [.slice a4q439 s426.read.bad.length k4q439] s426.read.bad) hf444).rp 0 rfl)
          have H := H.add (F := Rp (Shape.slice (Shape.int .i64)) [.slice a1q433 s426.to.length k1q433] s426.to) ((H0s.addN hE424 (F := Rp (Shape.slice (Shape.int .i64)) [.slice a1q433 s426.to.length k1q433] s426.to) hf435).rp 0 rfl)
          have H := H.add (F := Rp (Shape.slice hdrS) [.slice a3q455 s426.write.heads.length k3q455] s426.write.heads) ((H0s.addN hE424 (F := Rp (Shape.slice hdrS) [.slice a3q455 s426.write.heads.length k3q455] s426.write.heads) hf459).rp 0 rfl)
          have H := H.add (F := Rp (Shape.slice SB) [.slice a4q455 s426.write.chunks.length k4q455] s426.write.chunks) ((H0s.addN hE424 (F := Rp (Shape.slice SB) [.slice a4q455 s426.write.chunks.length k4q455] s426.write.chunks) hf460).rp 0 rfl)
          have H := H.add (F := Rp (Shape.slice (Shape.int .i64)) [.slice a5q455 s426.write.nodes.length k5q455] s426.write.nodes) ((H0s.addN hE424 (F := Rp (Shape.slice (Shape.int .i64)) [.slice a5q455 s426.write.nodes.length k5q455] s426.write.nodes) hf461).rp 0 rfl)
          have H := H.add (F := Rp (Shape.slice (Shape.int .i64)) [.slice a6q455 s426.write.acks.length k6q455] s426.write.acks) ((H0s.addN hE424 (F := Rp (Shape.slice (Shape.int .i64)) [.slice a6q455 s426.write.acks.length k6q455] s426.write.acks) hf462).rp 0 rfl)
          intro hS
          refine qHP hS 4 [(12, .seq), (13, .qui), (14, .qui)] [(10, .P b418 0), (90, .agg (shfV s426 a6q448 k6q448 a3q439 k3q439 a4q439 k4q439 a1q433 k1q433 a3q455 k3q455 a4q455 k4q455 a5q455 k5q455 a6q455 k6q455).toArray), (91, .slice none 0 0), (92, .I s426.done)] ?_
          refine RH.sto ?_
          refine qWC 118 b418 0 [] (.agg (shfV s426 a6q448 k6q448 a3q439 k3q439 a4q439 k4q439 a1q433 k1q433 a3q455 k3q455 a4q455 k4q455 a5q455 k5q455 a6q455 k6q455).toArray) [(b418, .cells (shfV s426 a6q448 k6q448 a3q439 k3q439 a4q439 k4q439 a1q433 k1q433 a3q455 k3q455 a4q455 k4q455 a5q455 k5q455 a6q455 k6q455).toArray 118 (0, 0)), (bj1, .cells (shfV sj1 a006j1 k006j1 a03j1 k03j1 a04j1 k04j1 a1j1 k1j1 a33j1 k33j1 a34j1 k34j1 a35j1 k35j1 a36j1 k36j1).toArray 118 (0, 0)), (b64, .cells (shfV s29 a6q46 k6q46 a3q37 k3q37 a4q37 k4q37 a1q31 k1q31 a3q53 k3q53 a4q53 k4q53 a5q53 k5q53 a6q53 k6q53).toArray 118 (0, 0)), (b17, .cells (objV (objOf ([1#8, 2#8, 3#8] : List (BitVec 8)) 1) a6q10 k6q10).toArray 102 (0, 0))] H 0 rfl rfl ?_
          intro w467 hch466 H
          have hS468 := hS.sto hch466 (.inl hnb420)
          refine ⟨hS468, ?_⟩
          have hS := hS468
          refine RH.fin hS 2 [12] [(12, .I s426.done)] (by as_aux_lemma => kernel_rfl) ?_
          have H := H.pick [14, 15, 16, 17, 18, 20, 21, 22, 23, 24, 26, 27, 28, 29, 30, 31, 32, 33, 34, 35, 36, 37, 38, 39, 40, 41, 42, 43, 44, 45, 46, 47, 48, 49, 50, 51, 52] rfl
          have H := H.frontM 3 (M' := [(b17, .cells (objV (objOf ([1#8, 2#8, 3#8] : List (BitVec 8)) 1) a6q10 k6q10).toArray 102 (0, 0)), (b418, .cells (shfV s426 a6q448 k6q448 a3q439 k3q439 a4q439 k4q439 a1q433 k1q433 a3q455 k3q455 a4q455 k4q455 a5q455 k5q455 a6q455 k6q455).toArray 118 (0, 0)), (bj1, .cells (shfV sj1 a006j1 k006j1 a03j1 k03j1 a04j1 k04j1 a1j1 k1j1 a33j1 k33j1 a34j1 k34j1 a35j1 k35j1 a36j1 k36j1).toArray 118 (0, 0)), (b64, .cells (shfV s29 a6q46 k6q46 a3q37 k3q37 a4q37 k4q37 a1q31 k1q31 a3q53 k3q53 a4q53 k4q53 a5q53 k5q53 a6q53 k6q53).toArray 118 (0, 0))]) rfl
          have H := H.frontM 3 (M' := [(b64, .cells (shfV s29 a6q46 k6q46 a3q37 k3q37 a4q37 k4q37 a1q31 k1q31 a3q53 k3q53 a4q53 k4q53 a5q53 k5q53 a6q53 k6q53).toArray 118 (0, 0)), (b17, .cells (objV (objOf ([1#8, 2#8, 3#8] : List (BitVec 8)) 1) a6q10 k6q10).toArray 102 (0, 0)), (b418, .cells (shfV s426 a6q448 k6q448 a3q439 k3q439 a4q439 k4q439 a1q433 k1q433 a3q455 k3q455 a4q455 k4q455 a5q455 k5q455 a6q455 k6q455).toArray 118 (0, 0)), (bj1, .cells (shfV sj1 a006j1 k006j1 a03j1 k03j1 a04j1 k04j1 a1j1 k1j1 a33j1 k33j1 a34j1 k34j1 a35j1 k35j1 a36j1 k36j1).toArray 118 (0, 0))]) rfl
          have H := H.frontM 3 (M' := [(bj1, .cells (shfV sj1 a006j1 k006j1 a03j1 k03j1 a04j1 k04j1 a1j1 k1j1 a33j1 k33j1 a34j1 k34j1 a35j1 k35j1 a36j1 k36j1).toArray 118 (0, 0)), (b64, .cells (shfV s29 a6q46 k6q46 a3q37 k3q37 a4q37 k4q37 a1q31 k1q31 a3q53 k3q53 a4q53 k4q53 a5q53 k5q53 a6q53 k6q53).toArray 118 (0, 0)), (b17, .cells (objV (objOf ([1#8, 2#8, 3#8] : List (BitVec 8)) 1) a6q10 k6q10).toArray 102 (0, 0)), (b418, .cells (shfV s426 a6q448 k6q448 a3q439 k3q439 a4q439 k4q439 a1q433 k1q433 a3q455 k3q455 a4q455 k4q455 a5q455 k5q455 a6q455 k6q455).toArray 118 (0, 0))]) rfl
          have H := H.drop (M' := [(bj1, .cells (shfV sj1 a006j1 k006j1 a03j1 k03j1 a04j1 k04j1 a1j1 k1j1 a33j1 k33j1 a34j1 k34j1 a35j1 k35j1 a36j1 k36j1).toArray 118 (0, 0)), (b64, .cells (shfV s29 a6q46 k6q46 a3q37 k3q37 a4q37 k4q37 a1q31 k1q31 a3q53 k3q53 a4q53 k4q53 a5q53 k5q53 a6q53 k6q53).toArray 118 (0, 0)), (b17, .cells (objV (objOf ([1#8, 2#8, 3#8] : List (BitVec 8)) 1) a6q10 k6q10).toArray 102 (0, 0))]) (W' := []) (by repeat (first | exact List.Sublist.refl _ | exact List.nil_sublist _ | apply List.Sublist.cons_cons | apply List.Sublist.cons)) (by repeat (first | exact List.Sublist.refl _ | exact List.nil_sublist _ | apply List.Sublist.cons_cons | apply List.Sublist.cons))
          exact hJ325 (s426) _ ⟨H, hlaw428.trans (by rw [hlj1])⟩
        ·
         rintro sj2 w326 ⟨H, hlj2⟩
         refine qR 2 [.c [8]] [(0, .bool (sj2.done == 1))] ?_
         refine qT (.bool (sj2.done == 1)) Try.func51 ?_
         refine ⟨_, rfl, H.done, ?_⟩
         congr 1
         have e3 : sj2.done = 1 := by rw [hlj2]; exact h22_e
         simp [e3]


end Go.Proofs.Ytppcdmbkgficiaa
