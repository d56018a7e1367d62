import Derived.Test.YtppcdmbkgficiaaGreatSF5
namespace Go.Proofs.YtppcdmbkgficiaaGreat
open Go.BX
def nodesTo (n : Nat) : List Int := (List.range n).map fun i : Nat => (i : Int) + 1
def objOf (xs : List (BitVec 8)) (n : Nat) : ObjD := ⟨⟨#[97]⟩, 7, (xs.length : Int), crcF xs, 0, 2, nodesTo n⟩
def hdAt (xs : List (BitVec 8)) (k n i : Nat) : Hdr := ⟨⟨7, (i : Int), 2⟩, (k : Int), (n : Int), (xs.length : Int), crcF (rowAt (enc xs k n) i)⟩
def chkAt (xs : List (BitVec 8)) (k n i : Nat) : Chk := ⟨hdAt xs k n i, rowAt (enc xs k n) i, false⟩
def chksOf (xs : List (BitVec 8)) (k n : Nat) : List Chk := (List.range n).map (chkAt xs k n)
theorem nodesTo_len (n : Nat) : (nodesTo n).length = n := by simp [nodesTo]
theorem nodesTo_snoc (n : Nat) : nodesTo n ++ [(n : Int) + 1] = nodesTo (n + 1) := by
 unfold nodesTo
 rw [List.range_succ, List.map_append]
 rfl
theorem chksOf_len (xs : List (BitVec 8)) (k n : Nat) : (chksOf xs k n).length = n := by simp [chksOf]
theorem chksOf_get {xs : List (BitVec 8)} {k n i : Nat} (h : i < n) : (chksOf xs k n)[i]? = some (chkAt xs k n i) := by
 unfold chksOf
 rw [List.getElem?_map, List.getElem?_range h]
 rfl
theorem headsOf_at {xs : List (BitVec 8)} {k n i : Nat} (hkn : k ≤ n) (h : i < n) (h2 : i < (headsOf ⟨7, 0, 2⟩ xs.length k (enc xs k n)).length) : (headsOf ⟨7, 0, 2⟩ xs.length k (enc xs k n))[i] = hdAt xs k n i := by
 have h1 := headsOf_get (id := ⟨7, 0, 2⟩) (size := xs.length) (k := k) (cs := enc xs k n) (i := i) (by rw [enc_len hkn]; exact h)
 rw [List.getElem?_eq_getElem h2] at h1
 rw [Option.some.inj h1]
 unfold hdAt
 rw [rowAt_eq (by rw [enc_len hkn]; exact h)]
 simp only [enc_len hkn]
theorem chk_snoc {xs : List (BitVec 8)} {k n i : Nat} {c : Chk} (h : i < n) (hc : c = chkAt xs k n i) : (chksOf xs k n).take i ++ [c] = (chksOf xs k n).take (i + 1) := by
 rw [hc]
 exact take_snoc (chksOf_get h)
set_option maxHeartbeats 2000000 in
theorem object21_ok {S : Nat → Prop} {w : World} {xs : List (BitVec 8)} {a : Option Addr} {c : Nat} (h : SB.rep S w [.slice a xs.length c] xs) {k n : Nat} (hs : xs.length ≤ 65536) (hk : 1 ≤ k) (hkn : k ≤ n) (hn : n ≤ 255) :
 Calls Tryz.prog 24 #[.slice a xs.length c, .I k, .I n] w (Ret fun v w' => Ext w w' ∧ ∃ (ds : List Value) (a : Option Addr) (c : Nat), v = .tuple #[.agg ds.toArray, .slice a (chksOf xs k n).length c, .bool true] ∧ objS.rep (Nw S w) w' ds (objOf xs n) ∧ (Shape.slice chkS).rep (Nw S w) w' [.slice a (chksOf xs k n).length c] (chksOf xs k n)) := by
 have hhl : (headsOf ⟨7, 0, 2⟩ xs.length k (enc xs k n)).length = (enc xs k n).length := headsOf_len
 refine qS (fn := Tryz.f24) (n := 82) (σ := [(0, .slice a xs.length c), (1, .I k), (2, .I n)]) Tryz.func24 ?_
 have H := Hp.startF (w := w) (S := S) (G := [Rp SB [.slice a xs.length c] xs]) (.rp h .nil)
 refine qR 1 [.c [0], .c [1]] [(0, .slice a xs.length c), (1, .I k), (2, .I n)] ?_
 refine qG (sq 0 3) ?_
 refine qB .seq 6 (sq 1 3) #[.string (⟨#[]⟩), .int .u64 0, .I 0, .int .u32 0, .I 0, .int .u64 0, .slice none 0 0] 26 H ?_
 intro b1 w2 H
 refine qF 2 [(0, .slice a xs.length c), (1, .I k), (2, .I n), (6, .P b1 0)] ?_
 refine qR 1 [.c [1, 0], .c [2]] [(0, .slice a xs.length c), (1, .I k), (2, .I n), (6, .P b1 0)] ?_
 refine qG (sq 0 9) ?_
 refine qP 3 (sq 3 9) [(0, .slice a xs.length c), (1, .I k), (2, .I n), (6, .P b1 0), (17, .slice a xs.length c), (18, .I k), (19, .I n)] ?_
 refine qK .seq (some 20) (sq 4 9) 41 #[.slice a xs.length c, .I k, .I n] (encode_ok (xs := xs) k n (H.rp 0 rfl) hs hk hkn hn) ?_
 rintro _ w3 hE6 ⟨a4, c5, rfl, hr7⟩
 have H := H.addN hE6 (F := Rp (Shape.slice SB) [.slice a4 (enc xs k n).length c5] (enc xs k n)) hr7
 have hel := enc_len (xs := xs) hkn
 refine qF 5 [(0, .slice a xs.length c), (1, .I k), (2, .I n), (6, .P b1 0), (9, .slice a4 (enc xs k n).length c5), (10, .I 0)] ?_
 refine qR 1 [.c [2, 0], .c [3]] [(0, .slice a xs.length c), (1, .I k), (2, .I n), (6, .P b1 0), (9, .slice a4 (enc xs k n).length c5), (10, .I 0)] ?_
 refine qG (sq 0 11) ?_
 refine qP 5 (sq 5 11) [(0, .slice a xs.length c), (2, .I n), (6, .P b1 0), (9, .slice a4 (enc xs k n).length c5), (10, .I 0), (24, .slice a4 (enc xs k n).length c5), (25, .agg #[.int .u64 7, .I 0, .int .u64 2]), (27, .I ((xs.length : Nat) : Int)), (28, .I k)] ?_
 refine qK .seq (some 29) (sq 6 11) 42 #[.slice a4 (enc xs k n).length c5, .agg #[.int .u64 7, .I 0, .int .u64 2], .I ((xs.length : Nat) : Int), .I k] (heads_ok (S := Av S w [] (idsOf [(b1, .cells #[.string (⟨#[]⟩), .int .u64 0, .I 0, .int .u32 0, .I 0, .int .u64 0, .slice none 0 0] 26 (0, 0))] [])) (cs := enc xs k n) (id := ⟨7, 0, 2⟩) xs.length k (H.rp 0 rfl) (cid_mk (Shape.int_mk (by decide)) (Shape.int_mk (by decide)) (Shape.int_mk (by decide))) (by omega) (by omega) (by omega) (by omega) (encD_all)) ?_
 rintro _ w8 hE11 ⟨a9, c10, rfl, hr12⟩
 have H := H.addN hE11 (F := Rp (Shape.slice hdrS) [.slice a9 ((headsOf (⟨7, 0, 2⟩) xs.length k (enc xs k n)).length) c10] (headsOf (⟨7, 0, 2⟩) xs.length k (enc xs k n))) hr12
 refine qF 5 [(0, .slice a xs.length c), (2, .I n), (6, .P b1 0), (9, .slice a4 (enc xs k n).length c5), (10, .I 0), (11, .slice a9 ((headsOf (⟨7, 0, 2⟩) xs.length k (enc xs k n)).length) c10), (12, .I 0)] ?_
 refine qR 1 [.c [3, 0], .c [4]] [(0, .slice a xs.length c), (2, .I n), (6, .P b1 0), (9, .slice a4 (enc xs k n).length c5), (10, .I 0), (11, .slice a9 ((headsOf (⟨7, 0, 2⟩) xs.length k (enc xs k n)).length) c10), (12, .I 0)] ?_
 refine qG (sq 0 7) ?_
 refine qP 3 (sq 3 7) [(2, .I n), (6, .P b1 0), (9, .slice a4 (enc xs k n).length c5), (10, .I 0), (11, .slice a9 ((headsOf (⟨7, 0, 2⟩) xs.length k (enc xs k n)).length) c10), (12, .I 0), (33, .I ((xs.length : Nat) : Int)), (34, .slice a xs.length c)] ?_
 refine qK .seq (some 35) (sq 4 7) 43 #[.slice a xs.length c] (crc_spec (H.rp 2 rfl)) ?_
 rintro _ w13 hE14 rfl
 have H := H.ext hE14
 refine qP 1 (sq 5 7) [(2, .I n), (6, .P b1 0), (9, .slice a4 (enc xs k n).length c5), (10, .I 0), (11, .slice a9 ((headsOf (⟨7, 0, 2⟩) xs.length k (enc xs k n)).length) c10), (12, .I 0), (36, .agg #[.string (⟨#[97]⟩), .int .u64 7, .I ((xs.length : Nat) : Int), .int .u32 (((crcF xs).toNat : Nat) : Int), .I 0, .int .u64 2, .slice none 0 0])] ?_
 refine qB .seq 13 (sq 6 7) #[.string (⟨#[]⟩), .int .u64 0, .I 0, .int .u32 0, .I 0, .int .u64 0, .slice none 0 0] 26 H ?_
 intro b15 w16 H
 refine qW 26 b15 0 (sq 7 7) (.agg #[.string (⟨#[97]⟩), .int .u64 7, .I ((xs.length : Nat) : Int), .int .u32 (((crcF xs).toNat : Nat) : Int), .I 0, .int .u64 2, .slice none 0 0]) [(b15, .cells #[.string (⟨#[97]⟩), .int .u64 7, .I ((xs.length : Nat) : Int), .int .u32 (((crcF xs).toNat : Nat) : Int), .I 0, .int .u64 2, .slice none 0 0] 26 (0, 0)), (b1, .cells #[.string (⟨#[]⟩), .int .u64 0, .I 0, .int .u32 0, .I 0, .int .u64 0, .slice none 0 0] 26 (0, 0))] H 0 rfl rfl ?_
 intro w17 H
 refine qF 0 [(2, .I n), (6, .P b1 0), (9, .slice a4 (enc xs k n).length c5), (10, .I 0), (11, .slice a9 ((headsOf (⟨7, 0, 2⟩) xs.length k (enc xs k n)).length) c10), (12, .I 0), (13, .P b15 0)] ?_
 refine qR 2 [.c [4, 0, 0], .c [4, 0, 1], .c [5]] [(2, .I n), (6, .P b1 0), (9, .slice a4 (enc xs k n).length c5), (10, .I 0), (11, .slice a9 ((headsOf (⟨7, 0, 2⟩) xs.length k (enc xs k n)).length) c10), (12, .I 0), (13, .P b15 0)] ?_
 refine qG (sq 0 18) ?_
 refine qP 13 (sq 13 18) [(2, .I n), (6, .P b1 0), (9, .slice a4 (enc xs k n).length c5), (11, .slice a9 ((headsOf (⟨7, 0, 2⟩) xs.length k (enc xs k n)).length) c10), (13, .P b15 0), (49, .bool ((((enc xs k n).length : Nat) : Int) != (n : Int)))] ?_
 refine tN (fun b_ => [(2, .I n), (6, .P b1 0), (9, .slice a4 (enc xs k n).length c5), (11, .slice a9 ((headsOf (⟨7, 0, 2⟩) xs.length k (enc xs k n)).length) c10), (13, .P b15 0), (49, .bool b_)]) (((enc xs k n).length : Nat) : Int) (n : Int) (fun h18 => ?_) (fun h18 => ?_)
 ·
  omega
 ·
  refine qF 5 [(2, .I n), (6, .P b1 0), (9, .slice a4 (enc xs k n).length c5), (11, .slice a9 ((headsOf (⟨7, 0, 2⟩) xs.length k (enc xs k n)).length) c10), (13, .P b15 0), (54, .bool ((((headsOf (⟨7, 0, 2⟩) xs.length k (enc xs k n)).length : Nat) : Int) != (n : Int)))] ?_
  refine qN (((headsOf (⟨7, 0, 2⟩) xs.length k (enc xs k n)).length : Nat) : Int) (n : Int) (fun h19 => ?_) (fun h19 => ?_)
  ·
   omega
  ·
   refine qR 7 [.c [6, 0, 1, 0], .b 0, .c [7]] [(2, .I n), (6, .P b1 0), (9, .slice a4 (enc xs k n).length c5), (11, .slice a9 ((headsOf (⟨7, 0, 2⟩) xs.length k (enc xs k n)).length) c10), (13, .P b15 0), (14, .slice none 0 0), (15, .I 0)] ?_
   have H := (H.ownNil chkS 96).ownNil Si 3
   have H : Hp w S [] [(b15, .cells #[.string (⟨#[97]⟩), .int .u64 7, .I ((xs.length : Nat) : Int), .int .u32 (((crcF xs).toNat : Nat) : Int), .I 0, .int .u64 2, .slice none 0 0] 26 (0, 0)), (b1, .cells #[.string (⟨#[]⟩), .int .u64 0, .I 0, .int .u32 0, .I 0, .int .u64 0, .slice none 0 0] 26 (0, 0))] [⟨Shape.int .i64, 3, .slice none (nodesTo 0).length 0, nodesTo 0⟩, ⟨chkS, 96, .slice none (((chksOf xs k n).take 0).length) 0, (chksOf xs k n).take 0⟩] [Rp (Shape.slice hdrS) [.slice a9 ((headsOf (⟨7, 0, 2⟩) xs.length k (enc xs k n)).length) c10] (headsOf (⟨7, 0, 2⟩) xs.length k (enc xs k n)), Rp (Shape.slice SB) [.slice a4 (enc xs k n).length c5] (enc xs k n), Rp SB [.slice a xs.length c] xs] w17 := H
   have H := H.pick [0, 1] rfl
   have H := H.drop (M' := [(b15, .cells #[.string (⟨#[97]⟩), .int .u64 7, .I ((xs.length : Nat) : Int), .int .u32 (((crcF xs).toNat : Nat) : Int), .I 0, .int .u64 2, .slice none (nodesTo 0).length 0] 26 (0, 0)), (b1, .cells #[.string (⟨#[]⟩), .int .u64 0, .I 0, .int .u32 0, .I 0, .int .u64 0, .slice none 0 0] 26 (0, 0))]) (W' := [⟨Shape.int .i64, 3, .slice none (nodesTo 0).length 0, nodesTo 0⟩, ⟨chkS, 96, .slice none (((chksOf xs k n).take 0).length) 0, (chksOf xs k n).take 0⟩]) (by repeat (first | exact List.Sublist.refl _ | exact List.nil_sublist _ | apply List.Sublist.cons_cons | apply List.Sublist.cons)) (by repeat (first | exact List.Sublist.refl _ | exact List.nil_sublist _ | apply List.Sublist.cons_cons | apply List.Sublist.cons))
   refine WK.loop (α := Nat × Option Addr × Nat × Option Addr × Nat) (b := cd Tryz.prog 24 [6, 0, 1, 0, 0]) (by as_aux_lemma => kernel_rfl) (fun st_ => match st_ with | (i, ao, co, bo, do_) => [(2, .I n), (6, .P b1 0), (9, .slice a4 (enc xs k n).length c5), (11, .slice a9 ((headsOf (⟨7, 0, 2⟩) xs.length k (enc xs k n)).length) c10), (13, .P b15 0), (14, .slice bo (((chksOf xs k n).take i).length) do_), (15, .I i)]) (fun st_ w' => match st_ with | (i, ao, co, bo, do_) => Hp w S [] [(b15, .cells #[.string (⟨#[97]⟩), .int .u64 7, .I ((xs.length : Nat) : Int), .int .u32 (((crcF xs).toNat : Nat) : Int), .I 0, .int .u64 2, .slice ao (nodesTo i).length co] 26 (0, 0)), (b1, .cells #[.string (⟨#[]⟩), .int .u64 0, .I 0, .int .u32 0, .I 0, .int .u64 0, .slice none 0 0] 26 (0, 0))] [⟨Shape.int .i64, 3, .slice ao (nodesTo i).length co, nodesTo i⟩, ⟨chkS, 96, .slice bo (((chksOf xs k n).take i).length) do_, (chksOf xs k n).take i⟩] [Rp (Shape.slice hdrS) [.slice a9 ((headsOf (⟨7, 0, 2⟩) xs.length k (enc xs k n)).length) c10] (headsOf (⟨7, 0, 2⟩) xs.length k (enc xs k n)), Rp (Shape.slice SB) [.slice a4 (enc xs k n).length c5] (enc xs k n)] w' ∧ i ≤ n) (fun st_ => match st_ with | (i, ao, co, bo, do_) => n - i) (0, none, 0, none, 0) ⟨H, Nat.zero_le _⟩ (rfl) ?_
   rintro ⟨i, ao, co, bo, do_⟩ w21 ⟨H, hinv0⟩ hback20
   refine qR 3 [.c [6, 0, 1, 0, 0, 0, 1], .c [6, 0, 1, 0, 0, 1], .l [6, 0, 1, 0, 0], .b 0, .c [7]] [(2, .I n), (6, .P b1 0), (9, .slice a4 (enc xs k n).length c5), (11, .slice a9 ((headsOf (⟨7, 0, 2⟩) xs.length k (enc xs k n)).length) c10), (13, .P b15 0), (14, .slice bo (((chksOf xs k n).take i).length) do_), (15, .I i), (58, .bool (decide (((i : Int) : Int) < (n : Int))))] ?_
   refine qD (((i : Int) : Int) < (n : Int)) (fun h22 => ?_) (fun h22 => ?_)
   ·
    refine qR 4 [.c [6, 0, 1, 0, 0, 1, 0, 0, 0], .c [6, 0, 1, 0, 0, 1, 0, 0, 1], .b 1, .c [6, 0, 1, 0, 0, 2], .l [6, 0, 1, 0, 0], .b 0, .c [7]] [(2, .I n), (6, .P b1 0), (9, .slice a4 (enc xs k n).length c5), (11, .slice a9 ((headsOf (⟨7, 0, 2⟩) xs.length k (enc xs k n)).length) c10), (13, .P b15 0), (14, .slice bo (((chksOf xs k n).take i).length) do_), (15, .I i)] ?_
    refine qG (sq 0 8) ?_
    refine qP 1 (sq 1 8) [(2, .I n), (6, .P b1 0), (9, .slice a4 (enc xs k n).length c5), (11, .slice a9 ((headsOf (⟨7, 0, 2⟩) xs.length k (enc xs k n)).length) c10), (13, .P b15 0), (14, .slice bo (((chksOf xs k n).take i).length) do_), (15, .I i), (61, .P b15 6)] ?_
    refine qL .seq 62 (sq 2 8) 24 b15 6 6 (.slice ao (nodesTo i).length co) (H.cells 0 rfl) ?_
    refine qP 1 (sq 3 8) [(2, .I n), (6, .P b1 0), (9, .slice a4 (enc xs k n).length c5), (11, .slice a9 ((headsOf (⟨7, 0, 2⟩) xs.length k (enc xs k n)).length) c10), (13, .P b15 0), (14, .slice bo (((chksOf xs k n).take i).length) do_), (15, .I i), (62, .slice ao (nodesTo i).length co), (63, .I i)] ?_
    refine qI .seq 64 (sq 4 8) ((i : Int) + 1) ?_
    refine RW.new (κ := .seq) (d := some 65) (r := (sq 5 8)) (o := .cells #[.I ((i : Int) + 1)] 3 (0, 0)) (v := fun b => .slice (some ⟨b, 0, none⟩) 1 1) (fun b => by as_aux_lemma => kernel_rfl) (nofun) H ?_
    intro b23 w24 H
    have H := H.freeze 0 rfl Si ([(i : Int) + 1] : List Int) 1 (by simp [maxLen]) (by first | exact Nat.le_refl _ | simp) (EsP.cons (c := [.I ((i : Int) + 1)]) i64a EsP.nil)
    have H : Hp w S [] [(b15, .cells #[.string (⟨#[97]⟩), .int .u64 7, .I ((xs.length : Nat) : Int), .int .u32 (((crcF xs).toNat : Nat) : Int), .I 0, .int .u64 2, .slice ao (nodesTo i).length co] 26 (0, 0)), (b1, .cells #[.string (⟨#[]⟩), .int .u64 0, .I 0, .int .u32 0, .I 0, .int .u64 0, .slice none 0 0] 26 (0, 0))] [⟨Shape.int .i64, 3, .slice ao (nodesTo i).length co, nodesTo i⟩, ⟨chkS, 96, .slice bo (((chksOf xs k n).take i).length) do_, (chksOf xs k n).take i⟩] [Rp Li [.slice (some ⟨b23, 0, none⟩) 1 1] ([(i : Int) + 1] : List Int), Rp (Shape.slice hdrS) [.slice a9 ((headsOf (⟨7, 0, 2⟩) xs.length k (enc xs k n)).length) c10] (headsOf (⟨7, 0, 2⟩) xs.length k (enc xs k n)), Rp (Shape.slice SB) [.slice a4 (enc xs k n).length c5] (enc xs k n)] _ := H
    refine RW.appendW (d := some 66) (r := (sq 6 8)) (T := 24) (ty := 24) (e := 3) (m := 1) (by_ := 8) (v := .slice ao (nodesTo i).length co) (a2 := (some ⟨b23, 0, none⟩)) (l2 := 1) (c2 := 1) (zs := nodesTo (i + 1)) (by as_aux_lemma => kernel_rfl) (by as_aux_lemma => kernel_rfl) rfl H 0 rfl 0 rfl (nodesTo_snoc i) (by rw [nodesTo_len]; omega) ?_
    intro a25 c26 w28 H hc27
    have H : Hp w S [] [(b15, .cells #[.string (⟨#[97]⟩), .int .u64 7, .I ((xs.length : Nat) : Int), .int .u32 (((crcF xs).toNat : Nat) : Int), .I 0, .int .u64 2, .slice ao (nodesTo i).length co] 26 (0, 0)), (b1, .cells #[.string (⟨#[]⟩), .int .u64 0, .I 0, .int .u32 0, .I 0, .int .u64 0, .slice none 0 0] 26 (0, 0))] [⟨Shape.int .i64, 3, .slice a25 ((nodesTo (i + 1)).length) c26, nodesTo (i + 1)⟩, ⟨chkS, 96, .slice bo (((chksOf xs k n).take i).length) do_, (chksOf xs k n).take i⟩] [Rp Li [.slice (some ⟨b23, 0, none⟩) 1 1] ([(i : Int) + 1] : List Int), Rp (Shape.slice hdrS) [.slice a9 ((headsOf (⟨7, 0, 2⟩) xs.length k (enc xs k n)).length) c10] (headsOf (⟨7, 0, 2⟩) xs.length k (enc xs k n)), Rp (Shape.slice SB) [.slice a4 (enc xs k n).length c5] (enc xs k n)] _ := H
    refine qP 1 (sq 7 8) [(2, .I n), (6, .P b1 0), (9, .slice a4 (enc xs k n).length c5), (11, .slice a9 ((headsOf (⟨7, 0, 2⟩) xs.length k (enc xs k n)).length) c10), (13, .P b15 0), (14, .slice bo (((chksOf xs k n).take i).length) do_), (15, .I i), (66, .slice a25 ((nodesTo (i + 1)).length) c26), (67, .P b15 6)] ?_
    refine qW 24 b15 6 (sq 8 8) (.slice a25 ((nodesTo (i + 1)).length) c26) [(b15, .cells #[.string (⟨#[97]⟩), .int .u64 7, .I ((xs.length : Nat) : Int), .int .u32 (((crcF xs).toNat : Nat) : Int), .I 0, .int .u64 2, .slice a25 ((nodesTo (i + 1)).length) c26] 26 (0, 0)), (b1, .cells #[.string (⟨#[]⟩), .int .u64 0, .I 0, .int .u32 0, .I 0, .int .u64 0, .slice none 0 0] 26 (0, 0))] H 0 rfl rfl ?_
    intro w29 H
    refine qF 0 [(2, .I n), (6, .P b1 0), (9, .slice a4 (enc xs k n).length c5), (11, .slice a9 ((headsOf (⟨7, 0, 2⟩) xs.length k (enc xs k n)).length) c10), (13, .P b15 0), (14, .slice bo (((chksOf xs k n).take i).length) do_), (15, .I i)] ?_
    refine WK.draw1 11 [(0, .qui), (1, .qui), (2, .qui), (3, .qui), (4, .qui), (5, .qui), (6, .qui), (7, .qui), (8, .qui), (9, .qui), (10, .chn)] [(0, .qui), (1, .qui), (2, .qui), (3, .qui), (4, .qui), (5, .qui), (6, .qui), (7, .qui), (8, .qui), (9, .qui), (10, .chn), (11, .seq), (12, .seq)] Try_mixed (by as_aux_lemma => kernel_rfl) (by as_aux_lemma => kernel_rfl) (by as_aux_lemma => kernel_rfl) ?_
    have H := H.draw
    generalize ({ w29 with drawn := w29.drawn + 1 } : World) = w30 at H ⊢
    refine qP 3 [(3, .qui), (4, .qui), (5, .qui), (6, .qui), (7, .qui), (8, .qui), (9, .qui), (10, .chn), (11, .seq), (12, .seq)] [(2, .I n), (6, .P b1 0), (9, .slice a4 (enc xs k n).length c5), (11, .slice a9 ((headsOf (⟨7, 0, 2⟩) xs.length k (enc xs k n)).length) c10), (13, .P b15 0), (14, .slice bo (((chksOf xs k n).take i).length) do_), (15, .I i), (68, .slice bo (((chksOf xs k n).take i).length) do_), (69, .slice a9 ((headsOf (⟨7, 0, 2⟩) xs.length k (enc xs k n)).length) c10), (70, .I i)] ?_
    have hx31 : i < (headsOf (⟨7, 0, 2⟩) xs.length k (enc xs k n)).length := by omega
    refine qX .qui 71 [(4, .qui), (5, .qui), (6, .qui), (7, .qui), (8, .qui), (9, .qui), (10, .chn), (11, .seq), (12, .seq)] 41 84 (i : Int) hdrS (hdAt xs k n i) H 1 rfl i (by omega) (by rw [List.getElem?_eq_getElem (by omega), headsOf_at hkn (by omega)]) ?_
    intro b32 o33 es34 hr35 H
    obtain ⟨cs0q36, rfl, hf37, hf38, hf39, hf40⟩ := hdr_open hr35
    obtain ⟨rfl, hf42, hf43, hf44⟩ := cid_open hf37
    refine qL .qui 72 [(5, .qui), (6, .qui), (7, .qui), (8, .qui), (9, .qui), (10, .chn), (11, .seq), (12, .seq)] 84 b32 o33 0 (.agg (hdrV (hdAt xs k n i)).toArray) (H.fc 0 rfl) ?_
    refine qP 2 [(7, .qui), (8, .qui), (9, .qui), (10, .chn), (11, .seq), (12, .seq)] [(2, .I n), (6, .P b1 0), (9, .slice a4 (enc xs k n).length c5), (11, .slice a9 ((headsOf (⟨7, 0, 2⟩) xs.length k (enc xs k n)).length) c10), (13, .P b15 0), (14, .slice bo (((chksOf xs k n).take i).length) do_), (15, .I i), (68, .slice bo (((chksOf xs k n).take i).length) do_), (72, .agg (hdrV (hdAt xs k n i)).toArray), (73, .slice a4 (enc xs k n).length c5), (74, .I i)] ?_
    have hx45 : i < (enc xs k n).length := by omega
    refine qX .qui 75 [(8, .qui), (9, .qui), (10, .chn), (11, .seq), (12, .seq)] 42 62 (i : Int) SB (rowAt (enc xs k n) i) H 3 rfl i (by omega) (by rw [List.getElem?_eq_getElem (by omega), rowAt_eq (by omega)]) ?_
    intro b46 o47 es48 hr49 H
    obtain ⟨a50, k51, rfl⟩ := Shape.slice_form' hr49
    have H := H.add (F := Rp SB [.slice a50 ((rowAt (enc xs k n) i).length) k51] (rowAt (enc xs k n) i)) hr49
    refine qL .qui 76 [(9, .qui), (10, .chn), (11, .seq), (12, .seq)] 62 b46 o47 0 (.slice a50 ((rowAt (enc xs k n) i).length) k51) (H.fc 1 rfl) ?_
    refine qP 1 [(10, .chn), (11, .seq), (12, .seq)] [(2, .I n), (6, .P b1 0), (9, .slice a4 (enc xs k n).length c5), (11, .slice a9 ((headsOf (⟨7, 0, 2⟩) xs.length k (enc xs k n)).length) c10), (13, .P b15 0), (14, .slice bo (((chksOf xs k n).take i).length) do_), (15, .I i), (68, .slice bo (((chksOf xs k n).take i).length) do_), (77, .agg #[.int .u64 (((hdAt xs k n i).id).version), .I (((hdAt xs k n i).id).index), .int .u64 (((hdAt xs k n i).id).epoch), .I ((hdAt xs k n i).kk), .I ((hdAt xs k n i).nn), .I ((hdAt xs k n i).size), .int .u32 ((((hdAt xs k n i).sum).toNat : Nat) : Int), .slice a50 ((rowAt (enc xs k n) i).length) k51, .bool false])] ?_
    refine RW.new (κ := .chn) (d := some 78) (r := [(11, .seq), (12, .seq)]) (o := .cells #[.int .u64 (((hdAt xs k n i).id).version), .I (((hdAt xs k n i).id).index), .int .u64 (((hdAt xs k n i).id).epoch), .I ((hdAt xs k n i).kk), .I ((hdAt xs k n i).nn), .I ((hdAt xs k n i).size), .int .u32 ((((hdAt xs k n i).sum).toNat : Nat) : Int), .slice a50 ((rowAt (enc xs k n) i).length) k51, .bool false] 96 (0, 0)) (v := fun b => .slice (some ⟨b, 0, none⟩) 1 1) (fun b => by as_aux_lemma => kernel_rfl) (nofun) H ?_
    intro b52 w53 H
    have H := H.freeze 0 rfl chkS ([⟨⟨((hdAt xs k n i).id), (hdAt xs k n i).kk, (hdAt xs k n i).nn, (hdAt xs k n i).size, (hdAt xs k n i).sum⟩, (rowAt (enc xs k n) i), false⟩] : List Chk) 1 (by simp [maxLen]) (by first | exact Nat.le_refl _ | simp) (EsP.cons (c := [.int .u64 (((hdAt xs k n i).id).version), .I (((hdAt xs k n i).id).index), .int .u64 (((hdAt xs k n i).id).epoch), .I ((hdAt xs k n i).kk), .I ((hdAt xs k n i).nn), .I ((hdAt xs k n i).size), .int .u32 ((((hdAt xs k n i).sum).toNat : Nat) : Int), .slice a50 ((rowAt (enc xs k n) i).length) k51, .bool false]) (chk_mk (hdr_mk (cid_mk u64a i64a u64a) i64a i64a i64a Shape.bv_mk) (H.rp 0 rfl) Shape.bool_mk) EsP.nil)
    have H : Hp w S [] [(b15, .cells #[.string (⟨#[97]⟩), .int .u64 7, .I ((xs.length : Nat) : Int), .int .u32 (((crcF xs).toNat : Nat) : Int), .I 0, .int .u64 2, .slice a25 ((nodesTo (i + 1)).length) c26] 26 (0, 0)), (b1, .cells #[.string (⟨#[]⟩), .int .u64 0, .I 0, .int .u32 0, .I 0, .int .u64 0, .slice none 0 0] 26 (0, 0))] [⟨Shape.int .i64, 3, .slice a25 ((nodesTo (i + 1)).length) c26, nodesTo (i + 1)⟩, ⟨chkS, 96, .slice bo (((chksOf xs k n).take i).length) do_, (chksOf xs k n).take i⟩] [Rp (Shape.slice chkS) [.slice (some ⟨b52, 0, none⟩) 1 1] ([⟨⟨((hdAt xs k n i).id), (hdAt xs k n i).kk, (hdAt xs k n i).nn, (hdAt xs k n i).size, (hdAt xs k n i).sum⟩, (rowAt (enc xs k n) i), false⟩] : List Chk), Rp SB [.slice a50 ((rowAt (enc xs k n) i).length) k51] (rowAt (enc xs k n) i), Fc b46 o47 [.slice a50 ((rowAt (enc xs k n) i).length) k51], Fc b32 o33 (hdrV (hdAt xs k n i)), Rp Li [.slice (some ⟨b23, 0, none⟩) 1 1] ([(i : Int) + 1] : List Int), Rp (Shape.slice hdrS) [.slice a9 ((headsOf (⟨7, 0, 2⟩) xs.length k (enc xs k n)).length) c10] (headsOf (⟨7, 0, 2⟩) xs.length k (enc xs k n)), Rp (Shape.slice SB) [.slice a4 (enc xs k n).length c5] (enc xs k n)] _ := H
    refine RW.appendW (d := some 79) (r := [(12, .seq)]) (T := 90) (ty := 90) (e := 96) (m := 9) (by_ := 88) (v := .slice bo (((chksOf xs k n).take i).length) do_) (a2 := (some ⟨b52, 0, none⟩)) (l2 := 1) (c2 := 1) (zs := (chksOf xs k n).take (i + 1)) (by as_aux_lemma => kernel_rfl) (by as_aux_lemma => kernel_rfl) rfl H 1 rfl 0 rfl (chk_snoc (by omega) rfl) (by rw [List.length_take, chksOf_len]; omega) ?_
    intro a54 c55 w57 H hc56
    have H : Hp w S [] [(b15, .cells #[.string (⟨#[97]⟩), .int .u64 7, .I ((xs.length : Nat) : Int), .int .u32 (((crcF xs).toNat : Nat) : Int), .I 0, .int .u64 2, .slice a25 ((nodesTo (i + 1)).length) c26] 26 (0, 0)), (b1, .cells #[.string (⟨#[]⟩), .int .u64 0, .I 0, .int .u32 0, .I 0, .int .u64 0, .slice none 0 0] 26 (0, 0))] [⟨Shape.int .i64, 3, .slice a25 ((nodesTo (i + 1)).length) c26, nodesTo (i + 1)⟩, ⟨chkS, 96, .slice a54 (((chksOf xs k n).take (i + 1)).length) c55, (chksOf xs k n).take (i + 1)⟩] [Rp (Shape.slice chkS) [.slice (some ⟨b52, 0, none⟩) 1 1] ([⟨⟨((hdAt xs k n i).id), (hdAt xs k n i).kk, (hdAt xs k n i).nn, (hdAt xs k n i).size, (hdAt xs k n i).sum⟩, (rowAt (enc xs k n) i), false⟩] : List Chk), Rp SB [.slice a50 ((rowAt (enc xs k n) i).length) k51] (rowAt (enc xs k n) i), Fc b46 o47 [.slice a50 ((rowAt (enc xs k n) i).length) k51], Fc b32 o33 (hdrV (hdAt xs k n i)), Rp Li [.slice (some ⟨b23, 0, none⟩) 1 1] ([(i : Int) + 1] : List Int), Rp (Shape.slice hdrS) [.slice a9 ((headsOf (⟨7, 0, 2⟩) xs.length k (enc xs k n)).length) c10] (headsOf (⟨7, 0, 2⟩) xs.length k (enc xs k n)), Rp (Shape.slice SB) [.slice a4 (enc xs k n).length c5] (enc xs k n)] _ := H
    refine qF 1 [(2, .I n), (6, .P b1 0), (9, .slice a4 (enc xs k n).length c5), (11, .slice a9 ((headsOf (⟨7, 0, 2⟩) xs.length k (enc xs k n)).length) c10), (13, .P b15 0), (14, .slice a54 (((chksOf xs k n).take (i + 1)).length) c55), (15, .I i)] ?_
    refine qR 1 [.c [6, 0, 1, 0, 0, 2], .l [6, 0, 1, 0, 0], .b 0, .c [7]] [(2, .I n), (6, .P b1 0), (9, .slice a4 (enc xs k n).length c5), (11, .slice a9 ((headsOf (⟨7, 0, 2⟩) xs.length k (enc xs k n)).length) c10), (13, .P b15 0), (14, .slice a54 (((chksOf xs k n).take (i + 1)).length) c55), (15, .I i)] ?_
    refine qG (sq 0 3) ?_
    refine qP 1 (sq 1 3) [(2, .I n), (6, .P b1 0), (9, .slice a4 (enc xs k n).length c5), (11, .slice a9 ((headsOf (⟨7, 0, 2⟩) xs.length k (enc xs k n)).length) c10), (13, .P b15 0), (14, .slice a54 (((chksOf xs k n).take (i + 1)).length) c55), (15, .I i), (59, .I i)] ?_
    refine qI .seq 60 (sq 2 3) ((i : Int) + 1) ?_
    refine qF 1 [(2, .I n), (6, .P b1 0), (9, .slice a4 (enc xs k n).length c5), (11, .slice a9 ((headsOf (⟨7, 0, 2⟩) xs.length k (enc xs k n)).length) c10), (13, .P b15 0), (14, .slice a54 (((chksOf xs k n).take (i + 1)).length) c55), (15, .I ((i : Int) + 1))] ?_
    have H := H.pick [5, 6] rfl
    exact WK.back (hback20 (i + 1, a25, c26, a54, c55) _ ⟨H, by omega⟩ (by first | omega | (simp only []; omega))) (by as_aux_lemma => kernel_rfl)
   ·
    refine qR 2 [.c [7, 0], .c [8]] [(6, .P b1 0), (13, .P b15 0), (14, .slice bo (((chksOf xs k n).take i).length) do_)] ?_
    refine qG (sq 0 5) ?_
    refine qL .seq 80 (sq 1 5) 26 b15 0 0 (.agg #[.string (⟨#[97]⟩), .int .u64 7, .I ((xs.length : Nat) : Int), .int .u32 (((crcF xs).toNat : Nat) : Int), .I 0, .int .u64 2, .slice ao (nodesTo i).length co]) (H.cells 0 rfl) ?_
    refine qP 1 (sq 2 5) [(6, .P b1 0), (80, .agg #[.string (⟨#[97]⟩), .int .u64 7, .I ((xs.length : Nat) : Int), .int .u32 (((crcF xs).toNat : Nat) : Int), .I 0, .int .u64 2, .slice ao (nodesTo i).length co]), (81, .slice bo (((chksOf xs k n).take i).length) do_)] ?_
    refine qW 26 b1 0 (sq 3 5) (.agg #[.string (⟨#[97]⟩), .int .u64 7, .I ((xs.length : Nat) : Int), .int .u32 (((crcF xs).toNat : Nat) : Int), .I 0, .int .u64 2, .slice ao (nodesTo i).length co]) [(b15, .cells #[.string (⟨#[97]⟩), .int .u64 7, .I ((xs.length : Nat) : Int), .int .u32 (((crcF xs).toNat : Nat) : Int), .I 0, .int .u64 2, .slice ao (nodesTo i).length co] 26 (0, 0)), (b1, .cells #[.string (⟨#[97]⟩), .int .u64 7, .I ((xs.length : Nat) : Int), .int .u32 (((crcF xs).toNat : Nat) : Int), .I 0, .int .u64 2, .slice ao (nodesTo i).length co] 26 (0, 0))] H 1 rfl rfl ?_
    intro w58 H
    refine qF 2 [(6, .P b1 0), (7, .slice bo (((chksOf xs k n).take i).length) do_), (8, .bool true)] ?_
    refine qRB (.tuple #[.agg #[.string (⟨#[97]⟩), .int .u64 7, .I ((xs.length : Nat) : Int), .int .u32 (((crcF xs).toNat : Nat) : Int), .I 0, .int .u64 2, .slice ao (nodesTo i).length co], .slice bo (((chksOf xs k n).take i).length) do_, .bool true]) Tryz.func24 (v3 (.cell 6 26) (.tmp 7) (.tmp 8) (vC (H.cells 1 rfl)) vT vT) ?_
    have H : Hp w S [] [(b15, .cells #[.string (⟨#[97]⟩), .int .u64 7, .I ((xs.length : Nat) : Int), .int .u32 (((crcF xs).toNat : Nat) : Int), .I 0, .int .u64 2, .slice ao (nodesTo i).length co] 26 (0, 0)), (b1, .cells #[.string (⟨#[97]⟩), .int .u64 7, .I ((xs.length : Nat) : Int), .int .u32 (((crcF xs).toNat : Nat) : Int), .I 0, .int .u64 2, .slice ao (nodesTo i).length co] 26 (0, 0))] [⟨chkS, 96, .slice bo (((chksOf xs k n).take i).length) do_, (chksOf xs k n).take i⟩] [Rp Li [.slice ao (nodesTo i).length co] (nodesTo i), Rp (Shape.slice hdrS) [.slice a9 ((headsOf (⟨7, 0, 2⟩) xs.length k (enc xs k n)).length) c10] (headsOf (⟨7, 0, 2⟩) xs.length k (enc xs k n)), Rp (Shape.slice SB) [.slice a4 (enc xs k n).length c5] (enc xs k n)] _ := H.freezeW 0 rfl
    have H : Hp w S [] [(b15, .cells #[.string (⟨#[97]⟩), .int .u64 7, .I ((xs.length : Nat) : Int), .int .u32 (((crcF xs).toNat : Nat) : Int), .I 0, .int .u64 2, .slice ao (nodesTo i).length co] 26 (0, 0)), (b1, .cells #[.string (⟨#[97]⟩), .int .u64 7, .I ((xs.length : Nat) : Int), .int .u32 (((crcF xs).toNat : Nat) : Int), .I 0, .int .u64 2, .slice ao (nodesTo i).length co] 26 (0, 0))] [] [Rp (Shape.slice chkS) [.slice bo (((chksOf xs k n).take i).length) do_] ((chksOf xs k n).take i), Rp Li [.slice ao (nodesTo i).length co] (nodesTo i), Rp (Shape.slice hdrS) [.slice a9 ((headsOf (⟨7, 0, 2⟩) xs.length k (enc xs k n)).length) c10] (headsOf (⟨7, 0, 2⟩) xs.length k (enc xs k n)), Rp (Shape.slice SB) [.slice a4 (enc xs k n).length c5] (enc xs k n)] _ := H.freezeW 0 rfl
    have hie : i = n := by omega
    subst hie
    have hte : (chksOf xs k i).take i = chksOf xs k i := List.take_of_length_le (by rw [chksOf_len]; exact Nat.le_refl _)
    rw [hte] at H ⊢
    exact ⟨_, rfl, H.done, [.string (⟨#[97]⟩), .int .u64 7, .I ((xs.length : Nat) : Int), .int .u32 (((crcF xs).toNat : Nat) : Int), .I 0, .int .u64 2, .slice ao (nodesTo i).length co], _, _, rfl, H.out (obj_mk (y0 := ⟨#[97]⟩) (y1 := 7) (y2 := ((xs.length : Nat) : Int)) (y3 := crcF xs) (y4 := 0) (y5 := 2) (y6 := nodesTo i) ⟨rfl, by first | assumption | (simp [maxLen]; done) | decide⟩ (Shape.int_mk (by decide)) i64a Shape.bv_mk (Shape.int_mk (by decide)) (Shape.int_mk (by decide)) (H.rp 1 rfl)), H.out (H.rp 0 rfl)⟩
theorem good_own {r : Rd} {frm : Int} {hd : Hdr} {ok : Bool} {dt : List (BitVec 8)} {xs : List (BitVec 8)} {k n : Nat} (at_ : Nat) (h1 : hd.id.index = (at_ : Int)) (h2 : dt = rowAt (enc xs k n) at_) : ∀ i : Nat, hitR r frm hd i = true → goodR r i hd dt ok → dt = rowAt (enc xs k n) i := fun i hi _ => by
 unfold hitR at hi
 simp only [Bool.and_eq_true, decide_eq_true_eq] at hi
 have := congrArg CID.index hi.1
 rw [h1] at this
 obtain rfl : at_ = i := Int.ofNat.inj this
 exact h2
theorem good_not {r : Rd} {frm : Int} {hd : Hdr} {dt : List (BitVec 8)} {xs : List (BitVec 8)} {k n : Nat} : ∀ i : Nat, hitR r frm hd i = true → goodR r i hd dt false → dt = rowAt (enc xs k n) i := fun i _ h => by
 exact absurd h.1 (by decide)
theorem find_lt {r : Rd} {frm : Int} {hd : Hdr} {i : Nat} (h : (List.range r.object.nodes.length).find? (hitR r frm hd) = some i) : i < r.object.nodes.length ∧ hitR r frm hd i = true := by
 have h2 := List.find?_some h
 exact ⟨List.mem_range.1 (List.mem_of_find?_eq_some h), h2⟩
theorem RdOf.got {xs : List (BitVec 8)} {k n : Nat} {r : Rd} (h : RdOf xs k n r) {frm : Int} {hd : Hdr} {dt : List (BitVec 8)} {ok : Bool} (hg : ∀ i : Nat, hitR r frm hd i = true → goodR r i hd dt ok → dt = rowAt (enc xs k n) i) : RdOf xs k n (gotR r frm hd dt ok) := by
 unfold gotR
 split
 · exact h
 · split
   · exact h
   · rename_i i hf
     obtain ⟨hi, hh⟩ := find_lt hf
     split
     · rename_i ho
       unfold stepR
       split
       · rename_i hgd
         exact { h.put ho (by rw [← h.nodes]; exact hi) (hg i hh hgd) with }
       · exact { h with }
     · exact h
theorem RdOf.begin {xs : List (BitVec 8)} {k n : Nat} {limit : Int} (hk : 1 ≤ k) (hkn : k ≤ n) (hn : n ≤ 255) (hs : xs.length ≤ 65536) : RdOf xs k n (beginR (objOf xs n) (k : Int) (n : Int) limit) where
 kk := rfl
 nn := rfl
 size := rfl
 sum := rfl
 nodes := nodesTo_len n
 of := ⟨List.nodup_nil, (fun p hp => nomatch hp), (fun p hp => nomatch hp)⟩
 hk := hk
 hkn := hkn
 hn := hn
 hs := hs
theorem got_bad_le {r : Rd} {frm : Int} {hd : Hdr} {dt : List (BitVec 8)} {ok : Bool} : (gotR r frm hd dt ok).bad.length ≤ r.bad.length + 1 := by
 unfold gotR
 split
 · omega
 · split
   · omega
   · split
     · unfold stepR
       split
       · show r.bad.length ≤ _; omega
       · show (r.bad ++ [_]).length ≤ _
         rw [List.length_append]
         exact Nat.le_refl _
     · omega
def h21r : Rd := beginR (objOf [1#8, 2#8, 3#8] 2) 1 2 10
theorem h21_of : RdOf [1#8, 2#8, 3#8] 1 2 h21r := RdOf.begin (k := 1) (n := 2) (by decide) (by decide) (by decide) (by decide)
theorem h21_okB : okB (objOf [1#8, 2#8, 3#8] 2) 1 2 10 := by unfold okB; decide +kernel
theorem h21_len : (asksR h21r).length = 2 := by kernel_rfl
theorem h21_ask (i : Nat) (hi : i < 2) : (asksR h21r)[i]? = some (askOf h21r i) := by
 match i, hi with
 | 0, _ => exact rfl
 | 1, _ => exact rfl
theorem h21_one : (gotR h21r 2 (chkAt [1#8, 2#8, 3#8] 1 2 1).head (chkAt [1#8, 2#8, 3#8] 1 2 1).data true).done = 1 := by decide +kernel
theorem h21_pl : 1 ≤ (gotR h21r 2 (chkAt [1#8, 2#8, 3#8] 1 2 1).head (chkAt [1#8, 2#8, 3#8] 1 2 1).data true).pieces.length := by decide +kernel
theorem h21_two : (gotR h21r 2 (askOf h21r 1).head [] false).done = 0 := by decide +kernel
theorem h21_three : (gotR (gotR h21r 2 (askOf h21r 1).head [] false) 1 (askOf h21r 0).head [] false).done = 2 := by decide +kernel
set_option maxHeartbeats 4000000 in
theorem heads21_spec {S : Nat → Prop} {w : World}  :
 Calls Tryz.prog 9 #[] w (Ret fun v w' => Ext w w' ∧ v = .bool true) := by
 refine qS (fn := Tryz.f9) (n := 96) (σ := []) Tryz.func9 ?_
 have H := Hp.startF (w := w) (S := S) (G := []) .nil
 refine qR 3 [.c [1, 0], .c [2]] [] ?_
 refine qG (sq 0 10) ?_
 refine RW.new (κ := .seq) (d := some 16) (r := (sq 1 10)) (o := .cells #[.int .u8 1, .int .u8 2, .int .u8 3] 5 (0, 0)) (v := fun b => .slice (some ⟨b, 0, none⟩) 3 3) (fun b => by as_aux_lemma => kernel_rfl) (nofun) H ?_
 intro b1 w2 H
 have H := H.freeze 0 rfl Sb ([1#8, 2#8, 3#8] : List (BitVec 8)) 3 (by simp [maxLen]) (by first | exact Nat.le_refl _ | simp) (EsP.cons (c := [.int .u8 1]) (Shape.bv_lit (x := 1#8) (by decide)) (EsP.cons (c := [.int .u8 2]) (Shape.bv_lit (x := 2#8) (by decide)) (EsP.cons (c := [.int .u8 3]) (Shape.bv_lit (x := 3#8) (by decide)) EsP.nil)))
 have H : Hp w S [] [] [] [Rp SB [.slice (some ⟨b1, 0, none⟩) 3 3] ([1#8, 2#8, 3#8] : List (BitVec 8))] _ := H
 refine qK .seq (some 17) (sq 2 10) 24 #[.slice (some ⟨b1, 0, none⟩) 3 3, .I 1, .I 2] (object21_ok (S := Av S w [] (idsOf [] [])) (xs := ([1#8, 2#8, 3#8] : List (BitVec 8))) (H.rp 0 rfl) (k := 1) (n := 2) (by decide) (by decide) (by decide) (by decide)) ?_
 rintro _ w3 hE7 ⟨cs4, a5, c6, rfl, hr8, hr9⟩
 have H0s := H
 obtain ⟨a6q10, k6q10, rfl, hf11, hf12, hf13, hf14, hf15, hf16⟩ := obj_open hr8
 have H := H.addN hE7 (F := Rp (Shape.slice chkS) [.slice a5 ((chksOf ([1#8, 2#8, 3#8] : List (BitVec 8)) 1 2).length) c6] (chksOf ([1#8, 2#8, 3#8] : List (BitVec 8)) 1 2)) hr9
 have H := H.add (F := Rp Li [.slice a6q10 ((objOf ([1#8, 2#8, 3#8] : List (BitVec 8)) 2).nodes.length) k6q10] ((objOf ([1#8, 2#8, 3#8] : List (BitVec 8)) 2).nodes)) ((H0s.addN hE7 (F := Rp Li [.slice a6q10 ((objOf ([1#8, 2#8, 3#8] : List (BitVec 8)) 2).nodes.length) k6q10] ((objOf ([1#8, 2#8, 3#8] : List (BitVec 8)) 2).nodes)) hf16).rp 0 rfl)
 refine qP 4 (sq 6 10) [(18, .agg (objV (objOf ([1#8, 2#8, 3#8] : List (BitVec 8)) 2) a6q10 k6q10).toArray), (19, .slice a5 ((chksOf ([1#8, 2#8, 3#8] : List (BitVec 8)) 1 2).length) c6), (20, .bool true)] ?_
 refine qB .seq 1 (sq 7 10) #[.string (⟨#[]⟩), .int .u64 0, .I 0, .int .u32 0, .I 0, .int .u64 0, .slice none 0 0] 26 H ?_
 intro b17 w18 H
 refine qW 26 b17 0 (sq 8 10) (.agg (objV (objOf ([1#8, 2#8, 3#8] : List (BitVec 8)) 2) a6q10 k6q10).toArray) [(b17, .cells (objV (objOf ([1#8, 2#8, 3#8] : List (BitVec 8)) 2) a6q10 k6q10).toArray 26 (0, 0))] H 0 rfl rfl ?_
 intro w19 H
 refine qF 2 [(1, .P b17 0), (2, .slice a5 ((chksOf ([1#8, 2#8, 3#8] : List (BitVec 8)) 1 2).length) c6), (3, .bool true)] ?_
 refine qR 1 [.c [2, 0], .c [3]] [(1, .P b17 0), (2, .slice a5 ((chksOf ([1#8, 2#8, 3#8] : List (BitVec 8)) 1 2).length) c6), (3, .bool true)] ?_
 refine qG (sq 0 10) ?_
 refine qL .seq 22 (sq 1 10) 26 b17 0 0 (.agg (objV (objOf ([1#8, 2#8, 3#8] : List (BitVec 8)) 2) a6q10 k6q10).toArray) (H.cells 0 rfl) ?_
 refine qK .seq (some 23) (sq 2 10) 5 #[.agg (objV (objOf ([1#8, 2#8, 3#8] : List (BitVec 8)) 2) a6q10 k6q10).toArray, .I 1, .I 2, .I 10] (fbegin_ok (O := (objOf ([1#8, 2#8, 3#8] : List (BitVec 8)) 2)) (obj_mk (y0 := (objOf ([1#8, 2#8, 3#8] : List (BitVec 8)) 2).key) (y1 := (objOf ([1#8, 2#8, 3#8] : List (BitVec 8)) 2).version) (y2 := (objOf ([1#8, 2#8, 3#8] : List (BitVec 8)) 2).size) (y3 := (objOf ([1#8, 2#8, 3#8] : List (BitVec 8)) 2).sum) (y4 := (objOf ([1#8, 2#8, 3#8] : List (BitVec 8)) 2).group) (y5 := (objOf ([1#8, 2#8, 3#8] : List (BitVec 8)) 2).epoch) (y6 := (objOf ([1#8, 2#8, 3#8] : List (BitVec 8)) 2).nodes) ⟨rfl, by first | assumption | (simp [maxLen]; done) | decide⟩ u64a i64a Shape.bv_mk i64a u64a (H.rp 0 rfl)) 1 2 10 (h21_okB)) ?_
 rintro _ w20 hE21 ⟨cs22, a23, c24, rfl, hr25, hr26⟩
 have H0s := H
 replace hr25 : rdS.rep _ _ cs22 h21r := hr25
 replace hr26 : (Shape.slice msgS).rep _ _ [.slice a23 (asksR h21r).length c24] (asksR h21r) := hr26
 rw [show beginR (objOf ([1#8, 2#8, 3#8] : List (BitVec 8)) 2) 1 2 10 = h21r from rfl]
 obtain ⟨cs0q27, a3q27, k3q27, a4q27, k4q27, rfl, hf28, hf29, hf30, hf31, hf32, hf33, hf34, hf35⟩ := rd_open hr25
 obtain ⟨a6q36, k6q36, rfl, hf37, hf38, hf39, hf40, hf41, hf42⟩ := obj_open hf28
 have H := H.addN hE21 (F := Rp (Shape.slice msgS) [.slice a23 (asksR h21r).length c24] (asksR h21r)) hr26
 have H := H.add (F := Rp Li [.slice a6q36 h21r.object.nodes.length k6q36] h21r.object.nodes) ((H0s.addN hE21 (F := Rp Li [.slice a6q36 h21r.object.nodes.length k6q36] h21r.object.nodes) hf42).rp 0 rfl)
 have H := H.add (F := Rp (Shape.slice pcS) [.slice a3q27 h21r.pieces.length k3q27] h21r.pieces) ((H0s.addN hE21 (F := Rp (Shape.slice pcS) [.slice a3q27 h21r.pieces.length k3q27] h21r.pieces) hf31).rp 0 rfl)
 have H := H.add (F := Rp Li [.slice a4q27 h21r.bad.length k4q27] h21r.bad) ((H0s.addN hE21 (F := Rp Li [.slice a4q27 h21r.bad.length k4q27] h21r.bad) hf32).rp 0 rfl)
 refine qP 4 (sq 6 10) [(2, .slice a5 ((chksOf ([1#8, 2#8, 3#8] : List (BitVec 8)) 1 2).length) c6), (3, .bool true), (24, .agg (rdV h21r a6q36 k6q36 a3q27 k3q27 a4q27 k4q27).toArray), (25, .slice a23 (asksR h21r).length c24), (26, .I 0)] ?_
 refine qB .seq 4 (sq 7 10) ((rdZ).toArray) 30 H ?_
 intro b43 w44 H
 refine qW 30 b43 0 (sq 8 10) (.agg (rdV h21r a6q36 k6q36 a3q27 k3q27 a4q27 k4q27).toArray) [(b43, .cells (rdV h21r a6q36 k6q36 a3q27 k3q27 a4q27 k4q27).toArray 30 (0, 0)), (b17, .cells (objV (objOf ([1#8, 2#8, 3#8] : List (BitVec 8)) 2) a6q10 k6q10).toArray 26 (0, 0))] H 0 rfl rfl ?_
 intro w45 H
 refine qF 2 [(2, .slice a5 ((chksOf ([1#8, 2#8, 3#8] : List (BitVec 8)) 1 2).length) c6), (3, .bool true), (4, .P b43 0), (5, .slice a23 (asksR h21r).length c24), (6, .I 0)] ?_
 refine qR 3 [.c [3, 0, 1], .c [4]] [(2, .slice a5 ((chksOf ([1#8, 2#8, 3#8] : List (BitVec 8)) 1 2).length) c6), (4, .P b43 0), (5, .slice a23 (asksR h21r).length c24), (37, .bool ((((asksR h21r).length : Nat) : Int) != 2))] ?_
 refine qN (((asksR h21r).length : Nat) : Int) 2 (fun h46 => ?_) (fun h46 => ?_)
 ·
  exact absurd (congrArg (fun q : Nat => (q : Int)) h21_len) h46
 ·
  refine qR 2 [.c [4, 0], .c [5]] [(2, .slice a5 ((chksOf ([1#8, 2#8, 3#8] : List (BitVec 8)) 1 2).length) c6), (4, .P b43 0), (5, .slice a23 (asksR h21r).length c24)] ?_
  refine WK.joinV (α := Nat × Rd × Option Addr × Nat × Option Addr × Nat × Option Addr × Nat) (fun x_ w_ => match x_ with | (bj1, Dj1, a06j1, k06j1, a3j1, k3j1, a4j1, k4j1) => Hp w S [] [(bj1, .cells (rdV Dj1 a06j1 k06j1 a3j1 k3j1 a4j1 k4j1).toArray 30 (0, 0)), (b43, .cells (rdV h21r a6q36 k6q36 a3q27 k3q27 a4q27 k4q27).toArray 30 (0, 0)), (b17, .cells (objV (objOf ([1#8, 2#8, 3#8] : List (BitVec 8)) 2) a6q10 k6q10).toArray 26 (0, 0))] [] [Rp Li [.slice a06j1 Dj1.object.nodes.length k06j1] Dj1.object.nodes, Rp (Shape.slice pcS) [.slice a3j1 Dj1.pieces.length k3j1] Dj1.pieces, Rp Li [.slice a4j1 Dj1.bad.length k4j1] Dj1.bad, Rp Li [.slice a4q27 h21r.bad.length k4q27] h21r.bad, Rp (Shape.slice pcS) [.slice a3q27 h21r.pieces.length k3q27] h21r.pieces, Rp Li [.slice a6q36 h21r.object.nodes.length k6q36] h21r.object.nodes, Rp (Shape.slice msgS) [.slice a23 (asksR h21r).length c24] (asksR h21r), Rp Li [.slice a6q10 ((objOf ([1#8, 2#8, 3#8] : List (BitVec 8)) 2).nodes.length) k6q10] ((objOf ([1#8, 2#8, 3#8] : List (BitVec 8)) 2).nodes), Rp (Shape.slice chkS) [.slice a5 ((chksOf ([1#8, 2#8, 3#8] : List (BitVec 8)) 1 2).length) c6] (chksOf ([1#8, 2#8, 3#8] : List (BitVec 8)) 1 2), Rp SB [.slice (some ⟨b1, 0, none⟩) 3 3] ([1#8, 2#8, 3#8] : List (BitVec 8))] w_ ∧ (Dj1 = gotR h21r 2 (chkAt [1#8, 2#8, 3#8] 1 2 1).head (chkAt [1#8, 2#8, 3#8] 1 2 1).data true) ∧ RdOf [1#8, 2#8, 3#8] 1 2 Dj1 ∧ rdB Dj1) (fun x_ => match x_ with | (bj1, Dj1, a06j1, k06j1, a3j1, k3j1, a4j1, k4j1) => [(4, .P b43 0), (5, .slice a23 (asksR h21r).length c24), (7, .P bj1 0), (8, .I Dj1.done)]) [Cq Tryz.prog 9 [5]] (fun hJ47 => ?_) ?_
  ·
   refine WK.drawH1 [] (.node (qs [0, 1, 2, 3, 4, 5, 6, 7, 8, 9]) (.cons 10 (.leaf [(11, .qui), (12, .qui), (13, .qui), (14, .seq), (15, .seq), (16, .qui)]) (.cons 14 (.leaf [(10, .seq), (11, .qui), (12, .qui), (13, .qui), (15, .seq), (16, .qui)]) .nil))) Try_mixed (by as_aux_lemma => kernel_rfl) (by as_aux_lemma => kernel_rfl) ?_
   intro w49 hw50
   have H := H.draw
   rw [← hw50] at H
   clear hw50
   have hS := Chg.refl w49 []
   refine RG.node' (qs [0, 1, 2, 3, 4, 5, 6, 7, 8, 9]) (by as_aux_lemma => kernel_rfl) ?_
   refine qHL 39 (qs [1, 2, 3, 4, 5, 6, 7, 8, 9]) 30 b43 0 0 (.agg (rdV h21r a6q36 k6q36 a3q27 k3q27 a4q27 k4q27).toArray) hS (H.cells 0 rfl) (by simp) ?_
   refine qHP hS 1 (qs [2, 3, 4, 5, 6, 7, 8, 9]) [(2, .slice a5 ((chksOf ([1#8, 2#8, 3#8] : List (BitVec 8)) 1 2).length) c6), (4, .P b43 0), (5, .slice a23 (asksR h21r).length c24), (39, .agg (rdV h21r a6q36 k6q36 a3q27 k3q27 a4q27 k4q27).toArray), (40, .slice a5 ((chksOf ([1#8, 2#8, 3#8] : List (BitVec 8)) 1 2).length) c6)] ?_
   have hx51 : 1 < (chksOf ([1#8, 2#8, 3#8] : List (BitVec 8)) 1 2).length := by rw [chksOf_len]; decide
   refine RH.index (d := some 41) (r := (qs [3, 4, 5, 6, 7, 8, 9])) (T := 90) (e := 96) (ik := .i64) (ix := 1) (sh := chkS) (x := (chkAt [1#8, 2#8, 3#8] 1 2 1)) (by as_aux_lemma => kernel_rfl) hS (by as_aux_lemma => kernel_rfl) H 5 rfl 1 (by omega) (chksOf_get (by decide)) ?_
   intro b52 o53 es54 hr55 H
   obtain ⟨cs0q56, a1q56, k1q56, rfl, hf57, hf58⟩ := chk_open hr55
   obtain ⟨cs0q59, rfl, hf60, hf61, hf62, hf63⟩ := hdr_open hf57
   obtain ⟨rfl, hf65, hf66, hf67⟩ := cid_open hf60
   have H := H.add (F := Rp SB [.slice a1q56 ((chkAt [1#8, 2#8, 3#8] 1 2 1).data.length) k1q56] ((chkAt [1#8, 2#8, 3#8] 1 2 1).data)) hf58
   refine qHP hS 1 (qs [4, 5, 6, 7, 8, 9]) [(2, .slice a5 ((chksOf ([1#8, 2#8, 3#8] : List (BitVec 8)) 1 2).length) c6), (4, .P b43 0), (5, .slice a23 (asksR h21r).length c24), (39, .agg (rdV h21r a6q36 k6q36 a3q27 k3q27 a4q27 k4q27).toArray), (42, .P b52 o53)] ?_
   refine qHL 43 (qs [5, 6, 7, 8, 9]) 84 b52 o53 0 (.agg (hdrV ((chkAt [1#8, 2#8, 3#8] 1 2 1).head)).toArray) hS (H.fc 1 rfl) (by simp) ?_
   refine qHP hS 1 (qs [6, 7, 8, 9]) [(4, .P b43 0), (5, .slice a23 (asksR h21r).length c24), (39, .agg (rdV h21r a6q36 k6q36 a3q27 k3q27 a4q27 k4q27).toArray), (43, .agg (hdrV ((chkAt [1#8, 2#8, 3#8] 1 2 1).head)).toArray), (44, .slice a5 ((chksOf ([1#8, 2#8, 3#8] : List (BitVec 8)) 1 2).length) c6)] ?_
   have hx68 : 1 < (chksOf ([1#8, 2#8, 3#8] : List (BitVec 8)) 1 2).length := by rw [chksOf_len]; decide
   refine RH.index (d := some 45) (r := (qs [7, 8, 9])) (T := 90) (e := 96) (ik := .i64) (ix := 1) (sh := chkS) (x := (chkAt [1#8, 2#8, 3#8] 1 2 1)) (by as_aux_lemma => kernel_rfl) hS (by as_aux_lemma => kernel_rfl) H 7 rfl 1 (by omega) (chksOf_get (by decide)) ?_
   intro b69 o70 es71 hr72 H
   obtain ⟨cs0q73, a1q73, k1q73, rfl, hf74, hf75⟩ := chk_open hr72
   obtain ⟨cs0q76, rfl, hf77, hf78, hf79, hf80⟩ := hdr_open hf74
   obtain ⟨rfl, hf82, hf83, hf84⟩ := cid_open hf77
   have H := H.add (F := Rp SB [.slice a1q73 ((chkAt [1#8, 2#8, 3#8] 1 2 1).data.length) k1q73] ((chkAt [1#8, 2#8, 3#8] 1 2 1).data)) hf75
   refine qHP hS 1 (qs [8, 9]) [(4, .P b43 0), (5, .slice a23 (asksR h21r).length c24), (39, .agg (rdV h21r a6q36 k6q36 a3q27 k3q27 a4q27 k4q27).toArray), (43, .agg (hdrV ((chkAt [1#8, 2#8, 3#8] 1 2 1).head)).toArray), (46, .pointer (some ⟨b69, o70 + 7, none⟩))] ?_
   refine qHL 47 [(9, .qui)] 62 b69 (o70 + 7) 7 (.slice a1q73 ((chkAt [1#8, 2#8, 3#8] 1 2 1).data.length) k1q73) hS (H.fc 1 rfl) (by simp) ?_
   refine RH.finB hS 1 [4, 5, 39, 48] [(4, .P b43 0), (5, .slice a23 (asksR h21r).length c24), (39, .agg (rdV h21r a6q36 k6q36 a3q27 k3q27 a4q27 k4q27).toArray), (48, .agg #[.I 15, .I 2, .I 0, .int .u64 0, .int .u64 0, .int .u64 0, .int .u64 0, .int .u64 0, .bool true, .bool false, .slice none 0 0, .slice none 0 0, .slice none 0 0, .int .u64 ((((chkAt [1#8, 2#8, 3#8] 1 2 1).head).id).version), .I ((((chkAt [1#8, 2#8, 3#8] 1 2 1).head).id).index), .int .u64 ((((chkAt [1#8, 2#8, 3#8] 1 2 1).head).id).epoch), .I (((chkAt [1#8, 2#8, 3#8] 1 2 1).head).kk), .I (((chkAt [1#8, 2#8, 3#8] 1 2 1).head).nn), .I (((chkAt [1#8, 2#8, 3#8] 1 2 1).head).size), .int .u32 (((((chkAt [1#8, 2#8, 3#8] 1 2 1).head).sum).toNat : Nat) : Int), .slice a1q73 ((chkAt [1#8, 2#8, 3#8] 1 2 1).data.length) k1q73, .int .u64 0, .int .u64 0, .I 0, .string (⟨#[]⟩), .I 0, .slice none 0 0])] (by as_aux_lemma => kernel_rfl) ?_
   refine (RGB.cons' ?_ (RGB.cons' ?_ RGB.nil'))
   ·
    refine RG.leaf' [(10, .seq), (11, .qui), (12, .qui), (13, .qui), (14, .seq), (15, .seq), (16, .qui)] (by as_aux_lemma => kernel_rfl) ?_
    have Hr := H
    refine RH.chn hS ?_
    have hgo88 : ∀ i : Nat, hitR h21r 2 (⟨(((chkAt [1#8, 2#8, 3#8] 1 2 1).head).id), ((chkAt [1#8, 2#8, 3#8] 1 2 1).head).kk, ((chkAt [1#8, 2#8, 3#8] 1 2 1).head).nn, ((chkAt [1#8, 2#8, 3#8] 1 2 1).head).size, ((chkAt [1#8, 2#8, 3#8] 1 2 1).head).sum⟩) i = true → goodR h21r i (⟨(((chkAt [1#8, 2#8, 3#8] 1 2 1).head).id), ((chkAt [1#8, 2#8, 3#8] 1 2 1).head).kk, ((chkAt [1#8, 2#8, 3#8] 1 2 1).head).nn, ((chkAt [1#8, 2#8, 3#8] 1 2 1).head).size, ((chkAt [1#8, 2#8, 3#8] 1 2 1).head).sum⟩) ((chkAt [1#8, 2#8, 3#8] 1 2 1).data) true → (chkAt [1#8, 2#8, 3#8] 1 2 1).data = rowAt (enc [1#8, 2#8, 3#8] 1 2) i := good_own 1 rfl rfl
    refine qK .chn (some 49) [] 25 #[.agg (rdV h21r a6q36 k6q36 a3q27 k3q27 a4q27 k4q27).toArray, .agg #[.I 15, .I 2, .I 0, .int .u64 0, .int .u64 0, .int .u64 0, .int .u64 0, .int .u64 0, .bool true, .bool false, .slice none 0 0, .slice none 0 0, .slice none 0 0, .int .u64 ((((chkAt [1#8, 2#8, 3#8] 1 2 1).head).id).version), .I ((((chkAt [1#8, 2#8, 3#8] 1 2 1).head).id).index), .int .u64 ((((chkAt [1#8, 2#8, 3#8] 1 2 1).head).id).epoch), .I (((chkAt [1#8, 2#8, 3#8] 1 2 1).head).kk), .I (((chkAt [1#8, 2#8, 3#8] 1 2 1).head).nn), .I (((chkAt [1#8, 2#8, 3#8] 1 2 1).head).size), .int .u32 (((((chkAt [1#8, 2#8, 3#8] 1 2 1).head).sum).toNat : Nat) : Int), .slice a1q73 ((chkAt [1#8, 2#8, 3#8] 1 2 1).data.length) k1q73, .int .u64 0, .int .u64 0, .I 0, .string (⟨#[]⟩), .I 0, .slice none 0 0]] (fgot_spec (r := h21r) (rd_mkB (by unfold rdB; omega) (H.rp 6 rfl) (H.rp 5 rfl) (H.rp 4 rfl)) (h21_of) 2 (⟨(((chkAt [1#8, 2#8, 3#8] 1 2 1).head).id), ((chkAt [1#8, 2#8, 3#8] 1 2 1).head).kk, ((chkAt [1#8, 2#8, 3#8] 1 2 1).head).nn, ((chkAt [1#8, 2#8, 3#8] 1 2 1).head).size, ((chkAt [1#8, 2#8, 3#8] 1 2 1).head).sum⟩) true (dt := (chkAt [1#8, 2#8, 3#8] 1 2 1).data) (H.rp 0 rfl) (.I 0) (.int .u64 0) (.int .u64 0) (.int .u64 0) (.int .u64 0) (.int .u64 0) (.bool false) (.slice none 0 0) (.slice none 0 0) (.slice none 0 0) (.int .u64 0) (.int .u64 0) (.I 0) (.string (⟨#[]⟩)) (.I 0) (.slice none 0 0) (by decide) (by decide +kernel) hgo88) ?_
    rintro _ w86 hE87 ⟨cs89, D90, rfl, hr91, hlaw92⟩
    have H0s := H
    obtain ⟨cs0q93, a3q93, k3q93, a4q93, k4q93, rfl, hf94, hf95, hf96, hf97, hf98, hf99, hf100, hf101⟩ := rd_open hr91
    obtain ⟨a6q102, k6q102, rfl, hf103, hf104, hf105, hf106, hf107, hf108⟩ := obj_open hf94
    have H := H.addN hE87 (F := Rp Li [.slice a6q102 D90.object.nodes.length k6q102] D90.object.nodes) hf108
    have H := H.add (F := Rp (Shape.slice pcS) [.slice a3q93 D90.pieces.length k3q93] D90.pieces) ((H0s.addN hE87 (F := Rp (Shape.slice pcS) [.slice a3q93 D90.pieces.length k3q93] D90.pieces) hf97).rp 0 rfl)
    have H := H.add (F := Rp Li [.slice a4q93 D90.bad.length k4q93] D90.bad) ((H0s.addN hE87 (F := Rp Li [.slice a4q93 D90.bad.length k4q93] D90.bad) hf98).rp 0 rfl)
    have hRD90 : RdOf [1#8, 2#8, 3#8] 1 2 D90 := hlaw92 ▸ RdOf.got (h21_of) hgo88
    have hBD90 : D90.bad.length ≤ h21r.bad.length + 1 := hlaw92 ▸ got_bad_le
    intro hS
    refine qHP hS 3 [(14, .seq), (15, .seq), (16, .qui)] [(4, .P b43 0), (5, .slice a23 (asksR h21r).length c24), (50, .agg (rdV D90 a6q102 k6q102 a3q93 k3q93 a4q93 k4q93).toArray), (51, .I D90.done)] ?_
    refine RH.chn hS ?_
    refine RW.newC (κ := .chn) (d := some 7) (r := []) (o := .cells (rdZ).toArray 30 (0, 0)) (v := fun b => .P b 0) (fun b => by as_aux_lemma => kernel_rfl) (nofun) H ?_
    intro b110 w111 hnw109 H
    have hnb112 := Nat.le_trans hS.size hnw109
    intro hS
    refine RH.sto ?_
    refine qWC 30 b110 0 [] (.agg (rdV D90 a6q102 k6q102 a3q93 k3q93 a4q93 k4q93).toArray) [(b110, .cells (rdV D90 a6q102 k6q102 a3q93 k3q93 a4q93 k4q93).toArray 30 (0, 0)), (b43, .cells (rdV h21r a6q36 k6q36 a3q27 k3q27 a4q27 k4q27).toArray 30 (0, 0)), (b17, .cells (objV (objOf ([1#8, 2#8, 3#8] : List (BitVec 8)) 2) a6q10 k6q10).toArray 26 (0, 0))] H 0 rfl rfl ?_
    intro w114 hch113 H
    have hS115 := hS.sto hch113 (.inl hnb112)
    refine ⟨hS115, ?_⟩
    have hS := hS115
    refine RH.fin hS 1 [4, 5, 7, 8] [(4, .P b43 0), (5, .slice a23 (asksR h21r).length c24), (7, .P b110 0), (8, .I D90.done)] (by as_aux_lemma => kernel_rfl) ?_
    have H := H.pick [2, 1, 0, 7, 8, 9, 10, 11, 12, 13] rfl
    exact hJ47 (b110, D90, a6q102, k6q102, a3q93, k3q93, a4q93, k4q93) _ ⟨H, hlaw92, hRD90, (by unfold rdB; omega)⟩
   ·
    refine RG.leaf' [(14, .seq), (10, .seq), (11, .qui), (12, .qui), (13, .qui), (15, .seq), (16, .qui)] (by as_aux_lemma => kernel_rfl) ?_
    have Hr := H
    refine RH.chn hS ?_
    refine RW.newC (κ := .chn) (d := some 7) (r := []) (o := .cells (rdZ).toArray 30 (0, 0)) (v := fun b => .P b 0) (fun b => by as_aux_lemma => kernel_rfl) (nofun) H ?_
    intro b117 w118 hnw116 H
    have hnb119 := Nat.le_trans hS.size hnw116
    intro hS
    refine RH.chn hS ?_
    have hgo123 : ∀ i : Nat, hitR h21r 2 (⟨(((chkAt [1#8, 2#8, 3#8] 1 2 1).head).id), ((chkAt [1#8, 2#8, 3#8] 1 2 1).head).kk, ((chkAt [1#8, 2#8, 3#8] 1 2 1).head).nn, ((chkAt [1#8, 2#8, 3#8] 1 2 1).head).size, ((chkAt [1#8, 2#8, 3#8] 1 2 1).head).sum⟩) i = true → goodR h21r i (⟨(((chkAt [1#8, 2#8, 3#8] 1 2 1).head).id), ((chkAt [1#8, 2#8, 3#8] 1 2 1).head).kk, ((chkAt [1#8, 2#8, 3#8] 1 2 1).head).nn, ((chkAt [1#8, 2#8, 3#8] 1 2 1).head).size, ((chkAt [1#8, 2#8, 3#8] 1 2 1).head).sum⟩) ((chkAt [1#8, 2#8, 3#8] 1 2 1).data) true → (chkAt [1#8, 2#8, 3#8] 1 2 1).data = rowAt (enc [1#8, 2#8, 3#8] 1 2) i := good_own 1 rfl rfl
    refine qK .chn (some 49) [] 25 #[.agg (rdV h21r a6q36 k6q36 a3q27 k3q27 a4q27 k4q27).toArray, .agg #[.I 15, .I 2, .I 0, .int .u64 0, .int .u64 0, .int .u64 0, .int .u64 0, .int .u64 0, .bool true, .bool false, .slice none 0 0, .slice none 0 0, .slice none 0 0, .int .u64 ((((chkAt [1#8, 2#8, 3#8] 1 2 1).head).id).version), .I ((((chkAt [1#8, 2#8, 3#8] 1 2 1).head).id).index), .int .u64 ((((chkAt [1#8, 2#8, 3#8] 1 2 1).head).id).epoch), .I (((chkAt [1#8, 2#8, 3#8] 1 2 1).head).kk), .I (((chkAt [1#8, 2#8, 3#8] 1 2 1).head).nn), .I (((chkAt [1#8, 2#8, 3#8] 1 2 1).head).size), .int .u32 (((((chkAt [1#8, 2#8, 3#8] 1 2 1).head).sum).toNat : Nat) : Int), .slice a1q73 ((chkAt [1#8, 2#8, 3#8] 1 2 1).data.length) k1q73, .int .u64 0, .int .u64 0, .I 0, .string (⟨#[]⟩), .I 0, .slice none 0 0]] (fgot_spec (r := h21r) (rd_mkB (by unfold rdB; omega) (H.rp 6 rfl) (H.rp 5 rfl) (H.rp 4 rfl)) (h21_of) 2 (⟨(((chkAt [1#8, 2#8, 3#8] 1 2 1).head).id), ((chkAt [1#8, 2#8, 3#8] 1 2 1).head).kk, ((chkAt [1#8, 2#8, 3#8] 1 2 1).head).nn, ((chkAt [1#8, 2#8, 3#8] 1 2 1).head).size, ((chkAt [1#8, 2#8, 3#8] 1 2 1).head).sum⟩) true (dt := (chkAt [1#8, 2#8, 3#8] 1 2 1).data) (H.rp 0 rfl) (.I 0) (.int .u64 0) (.int .u64 0) (.int .u64 0) (.int .u64 0) (.int .u64 0) (.bool false) (.slice none 0 0) (.slice none 0 0) (.slice none 0 0) (.int .u64 0) (.int .u64 0) (.I 0) (.string (⟨#[]⟩)) (.I 0) (.slice none 0 0) (by decide) (by decide +kernel) hgo123) ?_
    rintro _ w121 hE122 ⟨cs124, D125, rfl, hr126, hlaw127⟩
    have H0s := H
    obtain ⟨cs0q128, a3q128, k3q128, a4q128, k4q128, rfl, hf129, hf130, hf131, hf132, hf133, hf134, hf135, hf136⟩ := rd_open hr126
    obtain ⟨a6q137, k6q137, rfl, hf138, hf139, hf140, hf141, hf142, hf143⟩ := obj_open hf129
    have H := H.addN hE122 (F := Rp Li [.slice a6q137 D125.object.nodes.length k6q137] D125.object.nodes) hf143
    have H := H.add (F := Rp (Shape.slice pcS) [.slice a3q128 D125.pieces.length k3q128] D125.pieces) ((H0s.addN hE122 (F := Rp (Shape.slice pcS) [.slice a3q128 D125.pieces.length k3q128] D125.pieces) hf132).rp 0 rfl)
    have H := H.add (F := Rp Li [.slice a4q128 D125.bad.length k4q128] D125.bad) ((H0s.addN hE122 (F := Rp Li [.slice a4q128 D125.bad.length k4q128] D125.bad) hf133).rp 0 rfl)
    have hRD125 : RdOf [1#8, 2#8, 3#8] 1 2 D125 := hlaw127 ▸ RdOf.got (h21_of) hgo123
    have hBD125 : D125.bad.length ≤ h21r.bad.length + 1 := hlaw127 ▸ got_bad_le
    intro hS
    refine qHP hS 3 [(15, .seq), (16, .qui)] [(4, .P b43 0), (5, .slice a23 (asksR h21r).length c24), (7, .P b117 0), (50, .agg (rdV D125 a6q137 k6q137 a3q128 k3q128 a4q128 k4q128).toArray), (51, .I D125.done)] ?_
    refine RH.sto ?_
    refine qWC 30 b117 0 [] (.agg (rdV D125 a6q137 k6q137 a3q128 k3q128 a4q128 k4q128).toArray) [(b117, .cells (rdV D125 a6q137 k6q137 a3q128 k3q128 a4q128 k4q128).toArray 30 (0, 0)), (b43, .cells (rdV h21r a6q36 k6q36 a3q27 k3q27 a4q27 k4q27).toArray 30 (0, 0)), (b17, .cells (objV (objOf ([1#8, 2#8, 3#8] : List (BitVec 8)) 2) a6q10 k6q10).toArray 26 (0, 0))] H 0 rfl rfl ?_
    intro w145 hch144 H
    have hS146 := hS.sto hch144 (.inl hnb119)
    refine ⟨hS146, ?_⟩
    have hS := hS146
    refine RH.fin hS 1 [4, 5, 7, 8] [(4, .P b43 0), (5, .slice a23 (asksR h21r).length c24), (7, .P b117 0), (8, .I D125.done)] (by as_aux_lemma => kernel_rfl) ?_
    have H := H.pick [2, 1, 0, 7, 8, 9, 10, 11, 12, 13] rfl
    exact hJ47 (b117, D125, a6q137, k6q137, a3q128, k3q128, a4q128, k4q128) _ ⟨H, hlaw127, hRD125, (by unfold rdB; omega)⟩
  ·
   rintro ⟨bj1, Dj1, a06j1, k06j1, a3j1, k3j1, a4j1, k4j1⟩ w48 ⟨H, hij1⟩
   obtain ⟨hlj1, hRDj1, hBDj1⟩ := hij1
   have hBj1 := hBDj1
   unfold rdB at hBj1
   have hsj1 := hBj1.1
   refine qR 1 [.c [5, 0], .c [6]] [(4, .P b43 0), (5, .slice a23 (asksR h21r).length c24), (7, .P bj1 0), (8, .I Dj1.done)] ?_
   refine qG (sq 0 7) ?_
   refine qL .seq 53 (sq 1 7) 30 bj1 0 0 (.agg (rdV Dj1 a06j1 k06j1 a3j1 k3j1 a4j1 k4j1).toArray) (H.cells 0 rfl) ?_
   refine qK .seq (some 54) (sq 2 7) 26 #[.agg (rdV Dj1 a06j1 k06j1 a3j1 k3j1 a4j1 k4j1).toArray] (bytes_ok (r := Dj1) (rd_mkB (by unfold rdB; omega) (H.rp 0 rfl) (H.rp 1 rfl) (H.rp 2 rfl)) (hRDj1) (by rw [hlj1]; exact h21_pl)) ?_
   rintro _ w147 hE150 ⟨a148, c149, rfl, hr151⟩
   have H := H.addN hE150 (F := Rp SB [.slice a148 ([1#8, 2#8, 3#8].length) c149] [1#8, 2#8, 3#8]) hr151
   refine qF 5 [(4, .P b43 0), (5, .slice a23 (asksR h21r).length c24), (8, .I Dj1.done), (9, .slice a148 ([1#8, 2#8, 3#8].length) c149), (10, .I 0)] ?_
   refine qR 1 [.c [6, 0], .c [7]] [(4, .P b43 0), (5, .slice a23 (asksR h21r).length c24), (8, .I Dj1.done), (9, .slice a148 ([1#8, 2#8, 3#8].length) c149), (10, .I 0)] ?_
   refine WK.joinV (α := Nat × Rd × Option Addr × Nat × Option Addr × Nat × Option Addr × Nat) (fun x_ w_ => match x_ with | (bj2, Dj2, a06j2, k06j2, a3j2, k3j2, a4j2, k4j2) => Hp w S [] [(bj2, .cells (rdV Dj2 a06j2 k06j2 a3j2 k3j2 a4j2 k4j2).toArray 30 (0, 0)), (bj1, .cells (rdV Dj1 a06j1 k06j1 a3j1 k3j1 a4j1 k4j1).toArray 30 (0, 0)), (b43, .cells (rdV h21r a6q36 k6q36 a3q27 k3q27 a4q27 k4q27).toArray 30 (0, 0)), (b17, .cells (objV (objOf ([1#8, 2#8, 3#8] : List (BitVec 8)) 2) a6q10 k6q10).toArray 26 (0, 0))] [] [Rp Li [.slice a06j2 Dj2.object.nodes.length k06j2] Dj2.object.nodes, Rp (Shape.slice pcS) [.slice a3j2 Dj2.pieces.length k3j2] Dj2.pieces, Rp Li [.slice a4j2 Dj2.bad.length k4j2] Dj2.bad, Rp SB [.slice a148 ([1#8, 2#8, 3#8].length) c149] [1#8, 2#8, 3#8], Rp Li [.slice a06j1 Dj1.object.nodes.length k06j1] Dj1.object.nodes, Rp (Shape.slice pcS) [.slice a3j1 Dj1.pieces.length k3j1] Dj1.pieces, Rp Li [.slice a4j1 Dj1.bad.length k4j1] Dj1.bad, Rp Li [.slice a4q27 h21r.bad.length k4q27] h21r.bad, Rp (Shape.slice pcS) [.slice a3q27 h21r.pieces.length k3q27] h21r.pieces, Rp Li [.slice a6q36 h21r.object.nodes.length k6q36] h21r.object.nodes, Rp (Shape.slice msgS) [.slice a23 (asksR h21r).length c24] (asksR h21r), Rp Li [.slice a6q10 ((objOf ([1#8, 2#8, 3#8] : List (BitVec 8)) 2).nodes.length) k6q10] ((objOf ([1#8, 2#8, 3#8] : List (BitVec 8)) 2).nodes), Rp (Shape.slice chkS) [.slice a5 ((chksOf ([1#8, 2#8, 3#8] : List (BitVec 8)) 1 2).length) c6] (chksOf ([1#8, 2#8, 3#8] : List (BitVec 8)) 1 2), Rp SB [.slice (some ⟨b1, 0, none⟩) 3 3] ([1#8, 2#8, 3#8] : List (BitVec 8))] w_ ∧ (Dj2 = gotR h21r 2 (askOf h21r 1).head [] false) ∧ RdOf [1#8, 2#8, 3#8] 1 2 Dj2 ∧ rdB Dj2) (fun x_ => match x_ with | (bj2, Dj2, a06j2, k06j2, a3j2, k3j2, a4j2, k4j2) => [(5, .slice a23 (asksR h21r).length c24), (8, .I Dj1.done), (9, .slice a148 ([1#8, 2#8, 3#8].length) c149), (10, .I 0), (11, .P bj2 0), (12, .I Dj2.done)]) [Cq Tryz.prog 9 [7]] (fun hJ152 => ?_) ?_
   ·
    refine WK.drawH1 [] (.node (qs [0, 1, 2, 3, 4, 5]) (.cons 6 (.leaf [(7, .qui), (8, .qui), (9, .qui), (10, .seq), (11, .seq), (12, .qui)]) (.cons 10 (.leaf [(6, .seq), (7, .qui), (8, .qui), (9, .qui), (11, .seq), (12, .qui)]) .nil))) Try_mixed (by as_aux_lemma => kernel_rfl) (by as_aux_lemma => kernel_rfl) ?_
    intro w154 hw155
    have H := H.draw
    rw [← hw155] at H
    clear hw155
    have hS := Chg.refl w154 []
    refine RG.node' (qs [0, 1, 2, 3, 4, 5]) (by as_aux_lemma => kernel_rfl) ?_
    refine qHL 58 (qs [1, 2, 3, 4, 5]) 30 b43 0 0 (.agg (rdV h21r a6q36 k6q36 a3q27 k3q27 a4q27 k4q27).toArray) hS (H.cells 1 rfl) (by simp) ?_
    refine qHP hS 1 (qs [2, 3, 4, 5]) [(5, .slice a23 (asksR h21r).length c24), (8, .I Dj1.done), (9, .slice a148 ([1#8, 2#8, 3#8].length) c149), (10, .I 0), (58, .agg (rdV h21r a6q36 k6q36 a3q27 k3q27 a4q27 k4q27).toArray), (59, .slice a23 (asksR h21r).length c24)] ?_
    have hx156 : 1 < (asksR h21r).length := by rw [h21_len]; decide
    refine RH.index (d := some 60) (r := (qs [3, 4, 5])) (T := 31) (e := 89) (ik := .i64) (ix := 1) (sh := msgS) (x := (askOf h21r 1)) (by as_aux_lemma => kernel_rfl) hS (by as_aux_lemma => kernel_rfl) H 7 rfl 1 (by omega) (h21_ask 1 (by decide)) ?_
    intro b157 o158 es159 hr160 H
    obtain ⟨a10q161, k10q161, cs11q161, cs12q161, a13q161, k13q161, a19q161, k19q161, rfl, hf162, hf163, hf164, hf165, hf166, hf167, hf168, hf169, hf170, hf171, hf172, hf173, hf174, hf175, hf176, hf177, hf178, hf179⟩ := msg_open hr160
    obtain ⟨a0q180, k0q180, a1q180, k1q180, rfl, hf181, hf182⟩ := conf_open hf171
    obtain ⟨cs0q183, rfl, hf184, hf185, hf186, hf187⟩ := hdr_open hf172
    obtain ⟨rfl, hf189, hf190, hf191⟩ := cid_open hf184
    have H := H.add (F := Rp (Shape.slice entS) [.slice a10q161 ((askOf h21r 1).entries.length) k10q161] ((askOf h21r 1).entries)) hf170
    have H := H.add (F := Rp Li [.slice a0q180 (((askOf h21r 1).conf).voters.length) k0q180] (((askOf h21r 1).conf).voters)) hf181
    have H := H.add (F := Rp Li [.slice a1q180 (((askOf h21r 1).conf).learners.length) k1q180] (((askOf h21r 1).conf).learners)) hf182
    have H := H.add (F := Rp SB [.slice a13q161 ((askOf h21r 1).data.length) k13q161] ((askOf h21r 1).data)) hf173
    have H := H.add (F := Rp (Shape.slice Shape.str) [.slice a19q161 ((askOf h21r 1).names.length) k19q161] ((askOf h21r 1).names)) hf179
    refine qHP hS 1 (qs [4, 5]) [(5, .slice a23 (asksR h21r).length c24), (8, .I Dj1.done), (9, .slice a148 ([1#8, 2#8, 3#8].length) c149), (10, .I 0), (58, .agg (rdV h21r a6q36 k6q36 a3q27 k3q27 a4q27 k4q27).toArray), (61, .pointer (some ⟨b157, o158 + 13, none⟩))] ?_
    refine qHL 62 [(5, .qui)] 84 b157 (o158 + 13) 13 (.agg (hdrV ((askOf h21r 1).head)).toArray) hS (H.fc 5 rfl) (by simp) ?_
    refine RH.finB hS 1 [5, 8, 9, 10, 58, 63] [(5, .slice a23 (asksR h21r).length c24), (8, .I Dj1.done), (9, .slice a148 ([1#8, 2#8, 3#8].length) c149), (10, .I 0), (58, .agg (rdV h21r a6q36 k6q36 a3q27 k3q27 a4q27 k4q27).toArray), (63, .agg #[.I 15, .I 2, .I 0, .int .u64 0, .int .u64 0, .int .u64 0, .int .u64 0, .int .u64 0, .bool false, .bool false, .slice none 0 0, .slice none 0 0, .slice none 0 0, .int .u64 ((((askOf h21r 1).head).id).version), .I ((((askOf h21r 1).head).id).index), .int .u64 ((((askOf h21r 1).head).id).epoch), .I (((askOf h21r 1).head).kk), .I (((askOf h21r 1).head).nn), .I (((askOf h21r 1).head).size), .int .u32 (((((askOf h21r 1).head).sum).toNat : Nat) : Int), .slice none 0 0, .int .u64 0, .int .u64 0, .I 0, .string (⟨#[]⟩), .I 0, .slice none 0 0])] (by as_aux_lemma => kernel_rfl) ?_
    refine (RGB.cons' ?_ (RGB.cons' ?_ RGB.nil'))
    ·
     refine RG.leaf' [(6, .seq), (7, .qui), (8, .qui), (9, .qui), (10, .seq), (11, .seq), (12, .qui)] (by as_aux_lemma => kernel_rfl) ?_
     have Hr := H
     refine RH.chn hS ?_
     have hgo195 : ∀ i : Nat, hitR h21r 2 (⟨(((askOf h21r 1).head).id), ((askOf h21r 1).head).kk, ((askOf h21r 1).head).nn, ((askOf h21r 1).head).size, ((askOf h21r 1).head).sum⟩) i = true → goodR h21r i (⟨(((askOf h21r 1).head).id), ((askOf h21r 1).head).kk, ((askOf h21r 1).head).nn, ((askOf h21r 1).head).size, ((askOf h21r 1).head).sum⟩) [] false → [] = rowAt (enc [1#8, 2#8, 3#8] 1 2) i := good_not
     refine qK .chn (some 64) [] 25 #[.agg (rdV h21r a6q36 k6q36 a3q27 k3q27 a4q27 k4q27).toArray, .agg #[.I 15, .I 2, .I 0, .int .u64 0, .int .u64 0, .int .u64 0, .int .u64 0, .int .u64 0, .bool false, .bool false, .slice none 0 0, .slice none 0 0, .slice none 0 0, .int .u64 ((((askOf h21r 1).head).id).version), .I ((((askOf h21r 1).head).id).index), .int .u64 ((((askOf h21r 1).head).id).epoch), .I (((askOf h21r 1).head).kk), .I (((askOf h21r 1).head).nn), .I (((askOf h21r 1).head).size), .int .u32 (((((askOf h21r 1).head).sum).toNat : Nat) : Int), .slice none 0 0, .int .u64 0, .int .u64 0, .I 0, .string (⟨#[]⟩), .I 0, .slice none 0 0]] (fgot_spec (r := h21r) (rd_mkB (by unfold rdB; omega) (H.rp 12 rfl) (H.rp 11 rfl) (H.rp 10 rfl)) (h21_of) 2 (⟨(((askOf h21r 1).head).id), ((askOf h21r 1).head).kk, ((askOf h21r 1).head).nn, ((askOf h21r 1).head).size, ((askOf h21r 1).head).sum⟩) false (dt := []) Shape.slice_nil (.I 0) (.int .u64 0) (.int .u64 0) (.int .u64 0) (.int .u64 0) (.int .u64 0) (.bool false) (.slice none 0 0) (.slice none 0 0) (.slice none 0 0) (.int .u64 0) (.int .u64 0) (.I 0) (.string (⟨#[]⟩)) (.I 0) (.slice none 0 0) (by decide) (by decide) hgo195) ?_
     rintro _ w193 hE194 ⟨cs196, D197, rfl, hr198, hlaw199⟩
     have H0s := H
     obtain ⟨cs0q200, a3q200, k3q200, a4q200, k4q200, rfl, hf201, hf202, hf203, hf204, hf205, hf206, hf207, hf208⟩ := rd_open hr198
     obtain ⟨a6q209, k6q209, rfl, hf210, hf211, hf212, hf213, hf214, hf215⟩ := obj_open hf201
     have H := H.addN hE194 (F := Rp Li [.slice a6q209 D197.object.nodes.length k6q209] D197.object.nodes) hf215
     have H := H.add (F := Rp (Shape.slice pcS) [.slice a3q200 D197.pieces.length k3q200] D197.pieces) ((H0s.addN hE194 (F := Rp (Shape.slice pcS) [.slice a3q200 D197.pieces.length k3q200] D197.pieces) hf204).rp 0 rfl)
     have H := H.add (F := Rp Li [.slice a4q200 D197.bad.length k4q200] D197.bad) ((H0s.addN hE194 (F := Rp Li [.slice a4q200 D197.bad.length k4q200] D197.bad) hf205).rp 0 rfl)
     have hRD197 : RdOf [1#8, 2#8, 3#8] 1 2 D197 := hlaw199 ▸ RdOf.got (h21_of) hgo195
     have hBD197 : D197.bad.length ≤ h21r.bad.length + 1 := hlaw199 ▸ got_bad_le
     intro hS
     refine qHP hS 3 [(10, .seq), (11, .seq), (12, .qui)] [(5, .slice a23 (asksR h21r).length c24), (8, .I Dj1.done), (9, .slice a148 ([1#8, 2#8, 3#8].length) c149), (10, .I 0), (65, .agg (rdV D197 a6q209 k6q209 a3q200 k3q200 a4q200 k4q200).toArray), (66, .I D197.done)] ?_
     refine RH.chn hS ?_
     refine RW.newC (κ := .chn) (d := some 11) (r := []) (o := .cells (rdZ).toArray 30 (0, 0)) (v := fun b => .P b 0) (fun b => by as_aux_lemma => kernel_rfl) (nofun) H ?_
     intro b217 w218 hnw216 H
     have hnb219 := Nat.le_trans hS.size hnw216
     intro hS
     refine RH.sto ?_
     refine qWC 30 b217 0 [] (.agg (rdV D197 a6q209 k6q209 a3q200 k3q200 a4q200 k4q200).toArray) [(b217, .cells (rdV D197 a6q209 k6q209 a3q200 k3q200 a4q200 k4q200).toArray 30 (0, 0)), (bj1, .cells (rdV Dj1 a06j1 k06j1 a3j1 k3j1 a4j1 k4j1).toArray 30 (0, 0)), (b43, .cells (rdV h21r a6q36 k6q36 a3q27 k3q27 a4q27 k4q27).toArray 30 (0, 0)), (b17, .cells (objV (objOf ([1#8, 2#8, 3#8] : List (BitVec 8)) 2) a6q10 k6q10).toArray 26 (0, 0))] H 0 rfl rfl ?_
     intro w221 hch220 H
     have hS222 := hS.sto hch220 (.inl hnb219)
     refine ⟨hS222, ?_⟩
     have hS := hS222
     refine RH.fin hS 1 [5, 8, 9, 10, 11, 12] [(5, .slice a23 (asksR h21r).length c24), (8, .I Dj1.done), (9, .slice a148 ([1#8, 2#8, 3#8].length) c149), (10, .I 0), (11, .P b217 0), (12, .I D197.done)] (by as_aux_lemma => kernel_rfl) ?_
     have H := H.pick [2, 1, 0, 9, 10, 11, 12, 13, 14, 15, 16, 17, 18, 19] rfl
     exact hJ152 (b217, D197, a6q209, k6q209, a3q200, k3q200, a4q200, k4q200) _ ⟨H, hlaw199, hRD197, (by unfold rdB; omega)⟩
    ·
     refine RG.leaf' [(10, .seq), (6, .seq), (7, .qui), (8, .qui), (9, .qui), (11, .seq), (12, .qui)] (by as_aux_lemma => kernel_rfl) ?_
     have Hr := H
     refine RH.chn hS ?_
     refine RW.newC (κ := .chn) (d := some 11) (r := []) (o := .cells (rdZ).toArray 30 (0, 0)) (v := fun b => .P b 0) (fun b => by as_aux_lemma => kernel_rfl) (nofun) H ?_
     intro b224 w225 hnw223 H
     have hnb226 := Nat.le_trans hS.size hnw223
     intro hS
     refine RH.chn hS ?_
     have hgo230 : ∀ i : Nat, hitR h21r 2 (⟨(((askOf h21r 1).head).id), ((askOf h21r 1).head).kk, ((askOf h21r 1).head).nn, ((askOf h21r 1).head).size, ((askOf h21r 1).head).sum⟩) i = true → goodR h21r i (⟨(((askOf h21r 1).head).id), ((askOf h21r 1).head).kk, ((askOf h21r 1).head).nn, ((askOf h21r 1).head).size, ((askOf h21r 1).head).sum⟩) [] false → [] = rowAt (enc [1#8, 2#8, 3#8] 1 2) i := good_not
     refine qK .chn (some 64) [] 25 #[.agg (rdV h21r a6q36 k6q36 a3q27 k3q27 a4q27 k4q27).toArray, .agg #[.I 15, .I 2, .I 0, .int .u64 0, .int .u64 0, .int .u64 0, .int .u64 0, .int .u64 0, .bool false, .bool false, .slice none 0 0, .slice none 0 0, .slice none 0 0, .int .u64 ((((askOf h21r 1).head).id).version), .I ((((askOf h21r 1).head).id).index), .int .u64 ((((askOf h21r 1).head).id).epoch), .I (((askOf h21r 1).head).kk), .I (((askOf h21r 1).head).nn), .I (((askOf h21r 1).head).size), .int .u32 (((((askOf h21r 1).head).sum).toNat : Nat) : Int), .slice none 0 0, .int .u64 0, .int .u64 0, .I 0, .string (⟨#[]⟩), .I 0, .slice none 0 0]] (fgot_spec (r := h21r) (rd_mkB (by unfold rdB; omega) (H.rp 12 rfl) (H.rp 11 rfl) (H.rp 10 rfl)) (h21_of) 2 (⟨(((askOf h21r 1).head).id), ((askOf h21r 1).head).kk, ((askOf h21r 1).head).nn, ((askOf h21r 1).head).size, ((askOf h21r 1).head).sum⟩) false (dt := []) Shape.slice_nil (.I 0) (.int .u64 0) (.int .u64 0) (.int .u64 0) (.int .u64 0) (.int .u64 0) (.bool false) (.slice none 0 0) (.slice none 0 0) (.slice none 0 0) (.int .u64 0) (.int .u64 0) (.I 0) (.string (⟨#[]⟩)) (.I 0) (.slice none 0 0) (by decide) (by decide) hgo230) ?_
     rintro _ w228 hE229 ⟨cs231, D232, rfl, hr233, hlaw234⟩
     have H0s := H
     obtain ⟨cs0q235, a3q235, k3q235, a4q235, k4q235, rfl, hf236, hf237, hf238, hf239, hf240, hf241, hf242, hf243⟩ := rd_open hr233
     obtain ⟨a6q244, k6q244, rfl, hf245, hf246, hf247, hf248, hf249, hf250⟩ := obj_open hf236
     have H := H.addN hE229 (F := Rp Li [.slice a6q244 D232.object.nodes.length k6q244] D232.object.nodes) hf250
     have H := H.add (F := Rp (Shape.slice pcS) [.slice a3q235 D232.pieces.length k3q235] D232.pieces) ((H0s.addN hE229 (F := Rp (Shape.slice pcS) [.slice a3q235 D232.pieces.length k3q235] D232.pieces) hf239).rp 0 rfl)
     have H := H.add (F := Rp Li [.slice a4q235 D232.bad.length k4q235] D232.bad) ((H0s.addN hE229 (F := Rp Li [.slice a4q235 D232.bad.length k4q235] D232.bad) hf240).rp 0 rfl)
     have hRD232 : RdOf [1#8, 2#8, 3#8] 1 2 D232 := hlaw234 ▸ RdOf.got (h21_of) hgo230
     have hBD232 : D232.bad.length ≤ h21r.bad.length + 1 := hlaw234 ▸ got_bad_le
     intro hS
     refine qHP hS 3 [(11, .seq), (12, .qui)] [(5, .slice a23 (asksR h21r).length c24), (8, .I Dj1.done), (9, .slice a148 ([1#8, 2#8, 3#8].length) c149), (10, .I 0), (11, .P b224 0), (65, .agg (rdV D232 a6q244 k6q244 a3q235 k3q235 a4q235 k4q235).toArray), (66, .I D232.done)] ?_
     refine RH.sto ?_
     refine qWC 30 b224 0 [] (.agg (rdV D232 a6q244 k6q244 a3q235 k3q235 a4q235 k4q235).toArray) [(b224, .cells (rdV D232 a6q244 k6q244 a3q235 k3q235 a4q235 k4q235).toArray 30 (0, 0)), (bj1, .cells (rdV Dj1 a06j1 k06j1 a3j1 k3j1 a4j1 k4j1).toArray 30 (0, 0)), (b43, .cells (rdV h21r a6q36 k6q36 a3q27 k3q27 a4q27 k4q27).toArray 30 (0, 0)), (b17, .cells (objV (objOf ([1#8, 2#8, 3#8] : List (BitVec 8)) 2) a6q10 k6q10).toArray 26 (0, 0))] H 0 rfl rfl ?_
     intro w252 hch251 H
     have hS253 := hS.sto hch251 (.inl hnb226)
     refine ⟨hS253, ?_⟩
     have hS := hS253
     refine RH.fin hS 1 [5, 8, 9, 10, 11, 12] [(5, .slice a23 (asksR h21r).length c24), (8, .I Dj1.done), (9, .slice a148 ([1#8, 2#8, 3#8].length) c149), (10, .I 0), (11, .P b224 0), (12, .I D232.done)] (by as_aux_lemma => kernel_rfl) ?_
     have H := H.pick [2, 1, 0, 9, 10, 11, 12, 13, 14, 15, 16, 17, 18, 19] rfl
     exact hJ152 (b224, D232, a6q244, k6q244, a3q235, k3q235, a4q235, k4q235) _ ⟨H, hlaw234, hRD232, (by unfold rdB; omega)⟩
   ·
    rintro ⟨bj2, Dj2, a06j2, k06j2, a3j2, k3j2, a4j2, k4j2⟩ w153 ⟨H, hij2⟩
    obtain ⟨hlj2, hRDj2, hBDj2⟩ := hij2
    have hBj2 := hBDj2
    unfold rdB at hBj2
    have hsj2 := hBj2.1
    refine qR 1 [.c [7, 0], .c [8]] [(5, .slice a23 (asksR h21r).length c24), (8, .I Dj1.done), (9, .slice a148 ([1#8, 2#8, 3#8].length) c149), (10, .I 0), (11, .P bj2 0), (12, .I Dj2.done)] ?_
    refine WK.drawH1 [] (.node (qs [0, 1, 2, 3, 4, 5]) (.cons 6 (.leaf [(7, .qui), (8, .qui), (9, .qui), (10, .seq), (11, .seq), (12, .qui)]) (.cons 10 (.leaf [(6, .seq), (7, .qui), (8, .qui), (9, .qui), (11, .seq), (12, .qui)]) .nil))) Try_mixed (by as_aux_lemma => kernel_rfl) (by as_aux_lemma => kernel_rfl) ?_
    intro w254 hw255
    have H := H.draw
    rw [← hw255] at H
    clear hw255
    have hS := Chg.refl w254 []
    refine RG.node' (qs [0, 1, 2, 3, 4, 5]) (by as_aux_lemma => kernel_rfl) ?_
    refine qHL 68 (qs [1, 2, 3, 4, 5]) 30 bj2 0 0 (.agg (rdV Dj2 a06j2 k06j2 a3j2 k3j2 a4j2 k4j2).toArray) hS (H.cells 0 rfl) (by simp) ?_
    refine qHP hS 1 (qs [2, 3, 4, 5]) [(8, .I Dj1.done), (9, .slice a148 ([1#8, 2#8, 3#8].length) c149), (10, .I 0), (12, .I Dj2.done), (68, .agg (rdV Dj2 a06j2 k06j2 a3j2 k3j2 a4j2 k4j2).toArray), (69, .slice a23 (asksR h21r).length c24)] ?_
    have hx256 : 0 < (asksR h21r).length := by rw [h21_len]; decide
    refine RH.index (d := some 70) (r := (qs [3, 4, 5])) (T := 31) (e := 89) (ik := .i64) (ix := 0) (sh := msgS) (x := (askOf h21r 0)) (by as_aux_lemma => kernel_rfl) hS (by as_aux_lemma => kernel_rfl) H 10 rfl 0 (by omega) (h21_ask 0 (by decide)) ?_
    intro b257 o258 es259 hr260 H
    obtain ⟨a10q261, k10q261, cs11q261, cs12q261, a13q261, k13q261, a19q261, k19q261, rfl, hf262, hf263, hf264, hf265, hf266, hf267, hf268, hf269, hf270, hf271, hf272, hf273, hf274, hf275, hf276, hf277, hf278, hf279⟩ := msg_open hr260
    obtain ⟨a0q280, k0q280, a1q280, k1q280, rfl, hf281, hf282⟩ := conf_open hf271
    obtain ⟨cs0q283, rfl, hf284, hf285, hf286, hf287⟩ := hdr_open hf272
    obtain ⟨rfl, hf289, hf290, hf291⟩ := cid_open hf284
    have H := H.add (F := Rp (Shape.slice entS) [.slice a10q261 ((askOf h21r 0).entries.length) k10q261] ((askOf h21r 0).entries)) hf270
    have H := H.add (F := Rp Li [.slice a0q280 (((askOf h21r 0).conf).voters.length) k0q280] (((askOf h21r 0).conf).voters)) hf281
    have H := H.add (F := Rp Li [.slice a1q280 (((askOf h21r 0).conf).learners.length) k1q280] (((askOf h21r 0).conf).learners)) hf282
    have H := H.add (F := Rp SB [.slice a13q261 ((askOf h21r 0).data.length) k13q261] ((askOf h21r 0).data)) hf273
    have H := H.add (F := Rp (Shape.slice Shape.str) [.slice a19q261 ((askOf h21r 0).names.length) k19q261] ((askOf h21r 0).names)) hf279
    refine qHP hS 1 (qs [4, 5]) [(8, .I Dj1.done), (9, .slice a148 ([1#8, 2#8, 3#8].length) c149), (10, .I 0), (12, .I Dj2.done), (68, .agg (rdV Dj2 a06j2 k06j2 a3j2 k3j2 a4j2 k4j2).toArray), (71, .pointer (some ⟨b257, o258 + 13, none⟩))] ?_
    refine qHL 72 [(5, .qui)] 84 b257 (o258 + 13) 13 (.agg (hdrV ((askOf h21r 0).head)).toArray) hS (H.fc 5 rfl) (by simp) ?_
    refine RH.finB hS 1 [8, 9, 10, 12, 68, 73] [(8, .I Dj1.done), (9, .slice a148 ([1#8, 2#8, 3#8].length) c149), (10, .I 0), (12, .I Dj2.done), (68, .agg (rdV Dj2 a06j2 k06j2 a3j2 k3j2 a4j2 k4j2).toArray), (73, .agg #[.I 15, .I 1, .I 0, .int .u64 0, .int .u64 0, .int .u64 0, .int .u64 0, .int .u64 0, .bool false, .bool false, .slice none 0 0, .slice none 0 0, .slice none 0 0, .int .u64 ((((askOf h21r 0).head).id).version), .I ((((askOf h21r 0).head).id).index), .int .u64 ((((askOf h21r 0).head).id).epoch), .I (((askOf h21r 0).head).kk), .I (((askOf h21r 0).head).nn), .I (((askOf h21r 0).head).size), .int .u32 (((((askOf h21r 0).head).sum).toNat : Nat) : Int), .slice none 0 0, .int .u64 0, .int .u64 0, .I 0, .string (⟨#[]⟩), .I 0, .slice none 0 0])] (by as_aux_lemma => kernel_rfl) ?_
    refine (RGB.cons' ?_ (RGB.cons' ?_ RGB.nil'))
    ·
     refine RG.leaf' [(6, .seq), (7, .qui), (8, .qui), (9, .qui), (10, .seq), (11, .seq), (12, .qui)] (by as_aux_lemma => kernel_rfl) ?_
     have Hr := H
     refine RH.chn hS ?_
     have hgo295 : ∀ i : Nat, hitR Dj2 1 (⟨(((askOf h21r 0).head).id), ((askOf h21r 0).head).kk, ((askOf h21r 0).head).nn, ((askOf h21r 0).head).size, ((askOf h21r 0).head).sum⟩) i = true → goodR Dj2 i (⟨(((askOf h21r 0).head).id), ((askOf h21r 0).head).kk, ((askOf h21r 0).head).nn, ((askOf h21r 0).head).size, ((askOf h21r 0).head).sum⟩) [] false → [] = rowAt (enc [1#8, 2#8, 3#8] 1 2) i := good_not
     refine qK .chn (some 74) [] 25 #[.agg (rdV Dj2 a06j2 k06j2 a3j2 k3j2 a4j2 k4j2).toArray, .agg #[.I 15, .I 1, .I 0, .int .u64 0, .int .u64 0, .int .u64 0, .int .u64 0, .int .u64 0, .bool false, .bool false, .slice none 0 0, .slice none 0 0, .slice none 0 0, .int .u64 ((((askOf h21r 0).head).id).version), .I ((((askOf h21r 0).head).id).index), .int .u64 ((((askOf h21r 0).head).id).epoch), .I (((askOf h21r 0).head).kk), .I (((askOf h21r 0).head).nn), .I (((askOf h21r 0).head).size), .int .u32 (((((askOf h21r 0).head).sum).toNat : Nat) : Int), .slice none 0 0, .int .u64 0, .int .u64 0, .I 0, .string (⟨#[]⟩), .I 0, .slice none 0 0]] (fgot_spec (r := Dj2) (rd_mkB (by unfold rdB; omega) (H.rp 6 rfl) (H.rp 7 rfl) (H.rp 8 rfl)) (hRDj2) 1 (⟨(((askOf h21r 0).head).id), ((askOf h21r 0).head).kk, ((askOf h21r 0).head).nn, ((askOf h21r 0).head).size, ((askOf h21r 0).head).sum⟩) false (dt := []) Shape.slice_nil (.I 0) (.int .u64 0) (.int .u64 0) (.int .u64 0) (.int .u64 0) (.int .u64 0) (.bool false) (.slice none 0 0) (.slice none 0 0) (.slice none 0 0) (.int .u64 0) (.int .u64 0) (.I 0) (.string (⟨#[]⟩)) (.I 0) (.slice none 0 0) (by rw [hlj2]; decide +kernel) (by decide) hgo295) ?_
     rintro _ w293 hE294 ⟨cs296, D297, rfl, hr298, hlaw299⟩
     have H0s := H
     obtain ⟨cs0q300, a3q300, k3q300, a4q300, k4q300, rfl, hf301, hf302, hf303, hf304, hf305, hf306, hf307, hf308⟩ := rd_open hr298
     obtain ⟨a6q309, k6q309, rfl, hf310, hf311, hf312, hf313, hf314, hf315⟩ := obj_open hf301
     have H := H.addN hE294 (F := Rp Li [.slice a6q309 D297.object.nodes.length k6q309] D297.object.nodes) hf315
     have H := H.add (F := Rp (Shape.slice pcS) [.slice a3q300 D297.pieces.length k3q300] D297.pieces) ((H0s.addN hE294 (F := Rp (Shape.slice pcS) [.slice a3q300 D297.pieces.length k3q300] D297.pieces) hf304).rp 0 rfl)
     have H := H.add (F := Rp Li [.slice a4q300 D297.bad.length k4q300] D297.bad) ((H0s.addN hE294 (F := Rp Li [.slice a4q300 D297.bad.length k4q300] D297.bad) hf305).rp 0 rfl)
     have hRD297 : RdOf [1#8, 2#8, 3#8] 1 2 D297 := hlaw299 ▸ RdOf.got (hRDj2) hgo295
     have hBD297 : D297.bad.length ≤ Dj2.bad.length + 1 := hlaw299 ▸ got_bad_le
     intro hS
     refine qHP hS 3 [(10, .seq), (11, .seq), (12, .qui)] [(8, .I Dj1.done), (9, .slice a148 ([1#8, 2#8, 3#8].length) c149), (10, .I 0), (12, .I Dj2.done), (75, .agg (rdV D297 a6q309 k6q309 a3q300 k3q300 a4q300 k4q300).toArray), (76, .I D297.done)] ?_
     refine RH.chn hS ?_
     refine RW.newC (κ := .chn) (d := some 13) (r := []) (o := .cells (rdZ).toArray 30 (0, 0)) (v := fun b => .P b 0) (fun b => by as_aux_lemma => kernel_rfl) (nofun) H ?_
     intro b317 w318 hnw316 H
     have hnb319 := Nat.le_trans hS.size hnw316
     intro hS
     refine RH.sto ?_
     refine qWC 30 b317 0 [] (.agg (rdV D297 a6q309 k6q309 a3q300 k3q300 a4q300 k4q300).toArray) [(b317, .cells (rdV D297 a6q309 k6q309 a3q300 k3q300 a4q300 k4q300).toArray 30 (0, 0)), (bj2, .cells (rdV Dj2 a06j2 k06j2 a3j2 k3j2 a4j2 k4j2).toArray 30 (0, 0)), (bj1, .cells (rdV Dj1 a06j1 k06j1 a3j1 k3j1 a4j1 k4j1).toArray 30 (0, 0)), (b43, .cells (rdV h21r a6q36 k6q36 a3q27 k3q27 a4q27 k4q27).toArray 30 (0, 0)), (b17, .cells (objV (objOf ([1#8, 2#8, 3#8] : List (BitVec 8)) 2) a6q10 k6q10).toArray 26 (0, 0))] H 0 rfl rfl ?_
     intro w321 hch320 H
     have hS322 := hS.sto hch320 (.inl hnb319)
     refine ⟨hS322, ?_⟩
     have hS := hS322
     refine RH.fin hS 1 [8, 9, 10, 12, 14] [(8, .I Dj1.done), (9, .slice a148 ([1#8, 2#8, 3#8].length) c149), (10, .I 0), (12, .I Dj2.done), (14, .I D297.done)] (by as_aux_lemma => kernel_rfl) ?_
     refine qR 1 [.c [8, 0], .c [9]] [(8, .I Dj1.done), (9, .slice a148 ([1#8, 2#8, 3#8].length) c149), (10, .I 0), (12, .I Dj2.done), (14, .I D297.done)] ?_
     refine qG (sq 0 20) ?_
     refine qP 3 (sq 3 20) [(9, .slice a148 ([1#8, 2#8, 3#8].length) c149), (10, .I 0), (12, .I Dj2.done), (14, .I D297.done), (79, .bool (Dj1.done == 1))] ?_
     refine tE (fun b_ => [(9, .slice a148 ([1#8, 2#8, 3#8].length) c149), (10, .I 0), (12, .I Dj2.done), (14, .I D297.done), (79, .bool b_)]) Dj1.done 1 (fun h323 => ?_) (fun h323 => ?_)
     ·
      refine qP 5 (sq 8 20) [(12, .I Dj2.done), (14, .I D297.done), (83, .bool true), (84, .slice a148 ([1#8, 2#8, 3#8].length) c149)] ?_
      refine RW.new (κ := .seq) (d := some 85) (r := (sq 9 20)) (o := .cells #[.int .u8 1, .int .u8 2, .int .u8 3] 5 (0, 0)) (v := fun b => .slice (some ⟨b, 0, none⟩) 3 3) (fun b => by as_aux_lemma => kernel_rfl) (nofun) H ?_
      intro b324 w325 H
      have H := H.freeze 0 rfl Sb ([1#8, 2#8, 3#8] : List (BitVec 8)) 3 (by simp [maxLen]) (by first | exact Nat.le_refl _ | simp) (EsP.cons (c := [.int .u8 1]) (Shape.bv_lit (x := 1#8) (by decide)) (EsP.cons (c := [.int .u8 2]) (Shape.bv_lit (x := 2#8) (by decide)) (EsP.cons (c := [.int .u8 3]) (Shape.bv_lit (x := 3#8) (by decide)) EsP.nil)))
      have H : Hp w S [] [(b317, .cells (rdV D297 a6q309 k6q309 a3q300 k3q300 a4q300 k4q300).toArray 30 (0, 0)), (bj2, .cells (rdV Dj2 a06j2 k06j2 a3j2 k3j2 a4j2 k4j2).toArray 30 (0, 0)), (bj1, .cells (rdV Dj1 a06j1 k06j1 a3j1 k3j1 a4j1 k4j1).toArray 30 (0, 0)), (b43, .cells (rdV h21r a6q36 k6q36 a3q27 k3q27 a4q27 k4q27).toArray 30 (0, 0)), (b17, .cells (objV (objOf ([1#8, 2#8, 3#8] : List (BitVec 8)) 2) a6q10 k6q10).toArray 26 (0, 0))] [] [Rp SB [.slice (some ⟨b324, 0, none⟩) 3 3] ([1#8, 2#8, 3#8] : List (BitVec 8)), Rp Li [.slice a4q300 D297.bad.length k4q300] D297.bad, Rp (Shape.slice pcS) [.slice a3q300 D297.pieces.length k3q300] D297.pieces, Rp Li [.slice a6q309 D297.object.nodes.length k6q309] D297.object.nodes, Rp (Shape.slice Shape.str) [.slice a19q261 ((askOf h21r 0).names.length) k19q261] ((askOf h21r 0).names), Rp SB [.slice a13q261 ((askOf h21r 0).data.length) k13q261] ((askOf h21r 0).data), Rp Li [.slice a1q280 (((askOf h21r 0).conf).learners.length) k1q280] (((askOf h21r 0).conf).learners), Rp Li [.slice a0q280 (((askOf h21r 0).conf).voters.length) k0q280] (((askOf h21r 0).conf).voters), Rp (Shape.slice entS) [.slice a10q261 ((askOf h21r 0).entries.length) k10q261] ((askOf h21r 0).entries), Fc b257 o258 (msgV (askOf h21r 0) a10q261 k10q261 a0q280 k0q280 a1q280 k1q280 a13q261 k13q261 a19q261 k19q261), Rp Li [.slice a06j2 Dj2.object.nodes.length k06j2] Dj2.object.nodes, Rp (Shape.slice pcS) [.slice a3j2 Dj2.pieces.length k3j2] Dj2.pieces, Rp Li [.slice a4j2 Dj2.bad.length k4j2] Dj2.bad, Rp SB [.slice a148 ([1#8, 2#8, 3#8].length) c149] [1#8, 2#8, 3#8], Rp Li [.slice a06j1 Dj1.object.nodes.length k06j1] Dj1.object.nodes, Rp (Shape.slice pcS) [.slice a3j1 Dj1.pieces.length k3j1] Dj1.pieces, Rp Li [.slice a4j1 Dj1.bad.length k4j1] Dj1.bad, Rp Li [.slice a4q27 h21r.bad.length k4q27] h21r.bad, Rp (Shape.slice pcS) [.slice a3q27 h21r.pieces.length k3q27] h21r.pieces, Rp Li [.slice a6q36 h21r.object.nodes.length k6q36] h21r.object.nodes, Rp (Shape.slice msgS) [.slice a23 (asksR h21r).length c24] (asksR h21r), Rp Li [.slice a6q10 ((objOf ([1#8, 2#8, 3#8] : List (BitVec 8)) 2).nodes.length) k6q10] ((objOf ([1#8, 2#8, 3#8] : List (BitVec 8)) 2).nodes), Rp (Shape.slice chkS) [.slice a5 ((chksOf ([1#8, 2#8, 3#8] : List (BitVec 8)) 1 2).length) c6] (chksOf ([1#8, 2#8, 3#8] : List (BitVec 8)) 1 2), Rp SB [.slice (some ⟨b1, 0, none⟩) 3 3] ([1#8, 2#8, 3#8] : List (BitVec 8))] _ := H
      refine qK .seq (some 86) (sq 10 20) 21 #[.slice a148 ([1#8, 2#8, 3#8].length) c149, .slice (some ⟨b324, 0, none⟩) 3 3] (same01_spec (S := Av S w [] (idsOf [(b317, .cells (rdV D297 a6q309 k6q309 a3q300 k3q300 a4q300 k4q300).toArray 30 (0, 0)), (bj2, .cells (rdV Dj2 a06j2 k06j2 a3j2 k3j2 a4j2 k4j2).toArray 30 (0, 0)), (bj1, .cells (rdV Dj1 a06j1 k06j1 a3j1 k3j1 a4j1 k4j1).toArray 30 (0, 0)), (b43, .cells (rdV h21r a6q36 k6q36 a3q27 k3q27 a4q27 k4q27).toArray 30 (0, 0)), (b17, .cells (objV (objOf ([1#8, 2#8, 3#8] : List (BitVec 8)) 2) a6q10 k6q10).toArray 26 (0, 0))] [])) (xs := [1#8, 2#8, 3#8]) (ys := ([1#8, 2#8, 3#8] : List (BitVec 8))) (H.rp 13 rfl) (H.rp 0 rfl) (rfl)) ?_
      rintro _ w326 hE327 rfl
      have H := H.ext hE327
      refine qP 6 (sq 16 20) [(14, .I D297.done), (92, .bool (Dj2.done == 0))] ?_
      refine tE (fun b_ => [(14, .I D297.done), (92, .bool b_)]) Dj2.done 0 (fun h328 => ?_) (fun h328 => ?_)
      ·
       refine qF 4 [(0, .bool (D297.done == 2))] ?_
       refine qT (.bool (D297.done == 2)) Tryz.func9 ?_
       refine ⟨_, rfl, H.done, ?_⟩
       congr 1
       have e3 : D297.done = 2 := by rw [hlaw299, hlj2]; exact h21_three
       simp [e3]
      ·
       exact absurd (by rw [hlj2]; exact h21_two) h328
     ·
      exact absurd (by rw [hlj1]; exact h21_one) h323
    ·
     refine RG.leaf' [(10, .seq), (6, .seq), (7, .qui), (8, .qui), (9, .qui), (11, .seq), (12, .qui)] (by as_aux_lemma => kernel_rfl) ?_
     have Hr := H
     refine RH.chn hS ?_
     refine RW.newC (κ := .chn) (d := some 13) (r := []) (o := .cells (rdZ).toArray 30 (0, 0)) (v := fun b => .P b 0) (fun b => by as_aux_lemma => kernel_rfl) (nofun) H ?_
     intro b330 w331 hnw329 H
     have hnb332 := Nat.le_trans hS.size hnw329
     intro hS
     refine RH.chn hS ?_
     have hgo336 : ∀ i : Nat, hitR Dj2 1 (⟨(((askOf h21r 0).head).id), ((askOf h21r 0).head).kk, ((askOf h21r 0).head).nn, ((askOf h21r 0).head).size, ((askOf h21r 0).head).sum⟩) i = true → goodR Dj2 i (⟨(((askOf h21r 0).head).id), ((askOf h21r 0).head).kk, ((askOf h21r 0).head).nn, ((askOf h21r 0).head).size, ((askOf h21r 0).head).sum⟩) [] false → [] = rowAt (enc [1#8, 2#8, 3#8] 1 2) i := good_not
     refine qK .chn (some 74) [] 25 #[.agg (rdV Dj2 a06j2 k06j2 a3j2 k3j2 a4j2 k4j2).toArray, .agg #[.I 15, .I 1, .I 0, .int .u64 0, .int .u64 0, .int .u64 0, .int .u64 0, .int .u64 0, .bool false, .bool false, .slice none 0 0, .slice none 0 0, .slice none 0 0, .int .u64 ((((askOf h21r 0).head).id).version), .I ((((askOf h21r 0).head).id).index), .int .u64 ((((askOf h21r 0).head).id).epoch), .I (((askOf h21r 0).head).kk), .I (((askOf h21r 0).head).nn), .I (((askOf h21r 0).head).size), .int .u32 (((((askOf h21r 0).head).sum).toNat : Nat) : Int), .slice none 0 0, .int .u64 0, .int .u64 0, .I 0, .string (⟨#[]⟩), .I 0, .slice none 0 0]] (fgot_spec (r := Dj2) (rd_mkB (by unfold rdB; omega) (H.rp 6 rfl) (H.rp 7 rfl) (H.rp 8 rfl)) (hRDj2) 1 (⟨(((askOf h21r 0).head).id), ((askOf h21r 0).head).kk, ((askOf h21r 0).head).nn, ((askOf h21r 0).head).size, ((askOf h21r 0).head).sum⟩) false (dt := []) Shape.slice_nil (.I 0) (.int .u64 0) (.int .u64 0) (.int .u64 0) (.int .u64 0) (.int .u64 0) (.bool false) (.slice none 0 0) (.slice none 0 0) (.slice none 0 0) (.int .u64 0) (.int .u64 0) (.I 0) (.string (⟨#[]⟩)) (.I 0) (.slice none 0 0) (by rw [hlj2]; decide +kernel) (by decide) hgo336) ?_
     rintro _ w334 hE335 ⟨cs337, D338, rfl, hr339, hlaw340⟩
     have H0s := H
     obtain ⟨cs0q341, a3q341, k3q341, a4q341, k4q341, rfl, hf342, hf343, hf344, hf345, hf346, hf347, hf348, hf349⟩ := rd_open hr339
     obtain ⟨a6q350, k6q350, rfl, hf351, hf352, hf353, hf354, hf355, hf356⟩ := obj_open hf342
     have H := H.addN hE335 (F := Rp Li [.slice a6q350 D338.object.nodes.length k6q350] D338.object.nodes) hf356
     have H := H.add (F := Rp (Shape.slice pcS) [.slice a3q341 D338.pieces.length k3q341] D338.pieces) ((H0s.addN hE335 (F := Rp (Shape.slice pcS) [.slice a3q341 D338.pieces.length k3q341] D338.pieces) hf345).rp 0 rfl)
     have H := H.add (F := Rp Li [.slice a4q341 D338.bad.length k4q341] D338.bad) ((H0s.addN hE335 (F := Rp Li [.slice a4q341 D338.bad.length k4q341] D338.bad) hf346).rp 0 rfl)
     have hRD338 : RdOf [1#8, 2#8, 3#8] 1 2 D338 := hlaw340 ▸ RdOf.got (hRDj2) hgo336
     have hBD338 : D338.bad.length ≤ Dj2.bad.length + 1 := hlaw340 ▸ got_bad_le
     intro hS
     refine qHP hS 3 [(11, .seq), (12, .qui)] [(8, .I Dj1.done), (9, .slice a148 ([1#8, 2#8, 3#8].length) c149), (10, .I 0), (12, .I Dj2.done), (13, .P b330 0), (75, .agg (rdV D338 a6q350 k6q350 a3q341 k3q341 a4q341 k4q341).toArray), (76, .I D338.done)] ?_
     refine RH.sto ?_
     refine qWC 30 b330 0 [] (.agg (rdV D338 a6q350 k6q350 a3q341 k3q341 a4q341 k4q341).toArray) [(b330, .cells (rdV D338 a6q350 k6q350 a3q341 k3q341 a4q341 k4q341).toArray 30 (0, 0)), (bj2, .cells (rdV Dj2 a06j2 k06j2 a3j2 k3j2 a4j2 k4j2).toArray 30 (0, 0)), (bj1, .cells (rdV Dj1 a06j1 k06j1 a3j1 k3j1 a4j1 k4j1).toArray 30 (0, 0)), (b43, .cells (rdV h21r a6q36 k6q36 a3q27 k3q27 a4q27 k4q27).toArray 30 (0, 0)), (b17, .cells (objV (objOf ([1#8, 2#8, 3#8] : List (BitVec 8)) 2) a6q10 k6q10).toArray 26 (0, 0))] H 0 rfl rfl ?_
     intro w358 hch357 H
     have hS359 := hS.sto hch357 (.inl hnb332)
     refine ⟨hS359, ?_⟩
     have hS := hS359
     refine RH.fin hS 1 [8, 9, 10, 12, 14] [(8, .I Dj1.done), (9, .slice a148 ([1#8, 2#8, 3#8].length) c149), (10, .I 0), (12, .I Dj2.done), (14, .I D338.done)] (by as_aux_lemma => kernel_rfl) ?_
     refine qR 1 [.c [8, 0], .c [9]] [(8, .I Dj1.done), (9, .slice a148 ([1#8, 2#8, 3#8].length) c149), (10, .I 0), (12, .I Dj2.done), (14, .I D338.done)] ?_
     refine qG (sq 0 20) ?_
     refine qP 3 (sq 3 20) [(9, .slice a148 ([1#8, 2#8, 3#8].length) c149), (10, .I 0), (12, .I Dj2.done), (14, .I D338.done), (79, .bool (Dj1.done == 1))] ?_
     refine tE (fun b_ => [(9, .slice a148 ([1#8, 2#8, 3#8].length) c149), (10, .I 0), (12, .I Dj2.done), (14, .I D338.done), (79, .bool b_)]) Dj1.done 1 (fun h360 => ?_) (fun h360 => ?_)
     ·
      refine qP 5 (sq 8 20) [(12, .I Dj2.done), (14, .I D338.done), (83, .bool true), (84, .slice a148 ([1#8, 2#8, 3#8].length) c149)] ?_
      refine RW.new (κ := .seq) (d := some 85) (r := (sq 9 20)) (o := .cells #[.int .u8 1, .int .u8 2, .int .u8 3] 5 (0, 0)) (v := fun b => .slice (some ⟨b, 0, none⟩) 3 3) (fun b => by as_aux_lemma => kernel_rfl) (nofun) H ?_
      intro b361 w362 H
      have H := H.freeze 0 rfl Sb ([1#8, 2#8, 3#8] : List (BitVec 8)) 3 (by simp [maxLen]) (by first | exact Nat.le_refl _ | simp) (EsP.cons (c := [.int .u8 1]) (Shape.bv_lit (x := 1#8) (by decide)) (EsP.cons (c := [.int .u8 2]) (Shape.bv_lit (x := 2#8) (by decide)) (EsP.cons (c := [.int .u8 3]) (Shape.bv_lit (x := 3#8) (by decide)) EsP.nil)))
      have H : Hp w S [] [(b330, .cells (rdV D338 a6q350 k6q350 a3q341 k3q341 a4q341 k4q341).toArray 30 (0, 0)), (bj2, .cells (rdV Dj2 a06j2 k06j2 a3j2 k3j2 a4j2 k4j2).toArray 30 (0, 0)), (bj1, .cells (rdV Dj1 a06j1 k06j1 a3j1 k3j1 a4j1 k4j1).toArray 30 (0, 0)), (b43, .cells (rdV h21r a6q36 k6q36 a3q27 k3q27 a4q27 k4q27).toArray 30 (0, 0)), (b17, .cells (objV (objOf ([1#8, 2#8, 3#8] : List (BitVec 8)) 2) a6q10 k6q10).toArray 26 (0, 0))] [] [Rp SB [.slice (some ⟨b361, 0, none⟩) 3 3] ([1#8, 2#8, 3#8] : List (BitVec 8)), Rp Li [.slice a4q341 D338.bad.length k4q341] D338.bad, Rp (Shape.slice pcS) [.slice a3q341 D338.pieces.length k3q341] D338.pieces, Rp Li [.slice a6q350 D338.object.nodes.length k6q350] D338.object.nodes, Rp (Shape.slice Shape.str) [.slice a19q261 ((askOf h21r 0).names.length) k19q261] ((askOf h21r 0).names), Rp SB [.slice a13q261 ((askOf h21r 0).data.length) k13q261] ((askOf h21r 0).data), Rp Li [.slice a1q280 (((askOf h21r 0).conf).learners.length) k1q280] (((askOf h21r 0).conf).learners), Rp Li [.slice a0q280 (((askOf h21r 0).conf).voters.length) k0q280] (((askOf h21r 0).conf).voters), Rp (Shape.slice entS) [.slice a10q261 ((askOf h21r 0).entries.length) k10q261] ((askOf h21r 0).entries), Fc b257 o258 (msgV (askOf h21r 0) a10q261 k10q261 a0q280 k0q280 a1q280 k1q280 a13q261 k13q261 a19q261 k19q261), Rp Li [.slice a06j2 Dj2.object.nodes.length k06j2] Dj2.object.nodes, Rp (Shape.slice pcS) [.slice a3j2 Dj2.pieces.length k3j2] Dj2.pieces, Rp Li [.slice a4j2 Dj2.bad.length k4j2] Dj2.bad, Rp SB [.slice a148 ([1#8, 2#8, 3#8].length) c149] [1#8, 2#8, 3#8], Rp Li [.slice a06j1 Dj1.object.nodes.length k06j1] Dj1.object.nodes, Rp (Shape.slice pcS) [.slice a3j1 Dj1.pieces.length k3j1] Dj1.pieces, Rp Li [.slice a4j1 Dj1.bad.length k4j1] Dj1.bad, Rp Li [.slice a4q27 h21r.bad.length k4q27] h21r.bad, Rp (Shape.slice pcS) [.slice a3q27 h21r.pieces.length k3q27] h21r.pieces, Rp Li [.slice a6q36 h21r.object.nodes.length k6q36] h21r.object.nodes, Rp (Shape.slice msgS) [.slice a23 (asksR h21r).length c24] (asksR h21r), Rp Li [.slice a6q10 ((objOf ([1#8, 2#8, 3#8] : List (BitVec 8)) 2).nodes.length) k6q10] ((objOf ([1#8, 2#8, 3#8] : List (BitVec 8)) 2).nodes), Rp (Shape.slice chkS) [.slice a5 ((chksOf ([1#8, 2#8, 3#8] : List (BitVec 8)) 1 2).length) c6] (chksOf ([1#8, 2#8, 3#8] : List (BitVec 8)) 1 2), Rp SB [.slice (some ⟨b1, 0, none⟩) 3 3] ([1#8, 2#8, 3#8] : List (BitVec 8))] _ := H
      refine qK .seq (some 86) (sq 10 20) 21 #[.slice a148 ([1#8, 2#8, 3#8].length) c149, .slice (some ⟨b361, 0, none⟩) 3 3] (same01_spec (S := Av S w [] (idsOf [(b330, .cells (rdV D338 a6q350 k6q350 a3q341 k3q341 a4q341 k4q341).toArray 30 (0, 0)), (bj2, .cells (rdV Dj2 a06j2 k06j2 a3j2 k3j2 a4j2 k4j2).toArray 30 (0, 0)), (bj1, .cells (rdV Dj1 a06j1 k06j1 a3j1 k3j1 a4j1 k4j1).toArray 30 (0, 0)), (b43, .cells (rdV h21r a6q36 k6q36 a3q27 k3q27 a4q27 k4q27).toArray 30 (0, 0)), (b17, .cells (objV (objOf ([1#8, 2#8, 3#8] : List (BitVec 8)) 2) a6q10 k6q10).toArray 26 (0, 0))] [])) (xs := [1#8, 2#8, 3#8]) (ys := ([1#8, 2#8, 3#8] : List (BitVec 8))) (H.rp 13 rfl) (H.rp 0 rfl) (rfl)) ?_
      rintro _ w363 hE364 rfl
      have H := H.ext hE364
      refine qP 6 (sq 16 20) [(14, .I D338.done), (92, .bool (Dj2.done == 0))] ?_
      refine tE (fun b_ => [(14, .I D338.done), (92, .bool b_)]) Dj2.done 0 (fun h365 => ?_) (fun h365 => ?_)
      ·
       refine qF 4 [(0, .bool (D338.done == 2))] ?_
       refine qT (.bool (D338.done == 2)) Tryz.func9 ?_
       refine ⟨_, rfl, H.done, ?_⟩
       congr 1
       have e3 : D338.done = 2 := by rw [hlaw340, hlj2]; exact h21_three
       simp [e3]
      ·
       exact absurd (by rw [hlj2]; exact h21_two) h365
     ·
      exact absurd (by rw [hlj1]; exact h21_one) h360
end Go.Proofs.YtppcdmbkgficiaaGreat
