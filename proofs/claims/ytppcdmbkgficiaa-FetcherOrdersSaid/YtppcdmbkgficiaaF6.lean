import Derived.Test.YtppcdmbkgficiaaF5
namespace Go.Proofs.Ytppcdmbkgficiaa
open Go.BX

def nodesTo (n : Nat) : List Int := (List.range n).map fun i : Nat => (i : Int) + 1
def objOf (xs : List (BitVec 8)) (n : Nat) : ObjD := ⟨⟨#[97]⟩, 7, (xs.length : Int), crcF xs, 0, 2, nodesTo n⟩
def hdAt (xs : List (BitVec 8)) (k n i : Nat) : Hdr := ⟨⟨7, (i : Int), 2⟩, (k : Int), (n : Int), (xs.length : Int), crcF (rowAt (enc xs k n) i)⟩
def chkAt (xs : List (BitVec 8)) (k n i : Nat) : Chk := ⟨hdAt xs k n i, rowAt (enc xs k n) i, false⟩
def chksOf (xs : List (BitVec 8)) (k n : Nat) : List Chk := (List.range n).map (chkAt xs k n)
theorem nodesTo_len (n : Nat) : (nodesTo n).length = n := by simp [nodesTo]
theorem nodesTo_snoc (n : Nat) : nodesTo n ++ [(n : Int) + 1] = nodesTo (n + 1) := by
 unfold nodesTo
 rw [List.range_succ, List.map_append]
 rfl
theorem chksOf_len (xs : List (BitVec 8)) (k n : Nat) : (chksOf xs k n).length = n := by simp [chksOf]
theorem chksOf_get {xs : List (BitVec 8)} {k n i : Nat} (h : i < n) : (chksOf xs k n)[i]? = some (chkAt xs k n i) := by
 unfold chksOf
 rw [List.getElem?_map, List.getElem?_range h]
 rfl
theorem headsOf_at {xs : List (BitVec 8)} {k n i : Nat} (hkn : k ≤ n) (h : i < n) (h2 : i < (headsOf ⟨7, 0, 2⟩ xs.length k (enc xs k n)).length) : (headsOf ⟨7, 0, 2⟩ xs.length k (enc xs k n))[i] = hdAt xs k n i := by
 have h1 := headsOf_get (id := ⟨7, 0, 2⟩) (size := xs.length) (k := k) (cs := enc xs k n) (i := i) (by rw [enc_len hkn]; exact h)
 rw [List.getElem?_eq_getElem h2] at h1
 rw [Option.some.inj h1]
 unfold hdAt
 rw [rowAt_eq (by rw [enc_len hkn]; exact h)]
 simp only [enc_len hkn]
theorem chk_snoc {xs : List (BitVec 8)} {k n i : Nat} {c : Chk} (h : i < n) (hc : c = chkAt xs k n i) : (chksOf xs k n).take i ++ [c] = (chksOf xs k n).take (i + 1) := by
 rw [hc]
 exact take_snoc (chksOf_get h)

set_option maxHeartbeats 2000000 in
theorem object21_ok {S : Nat → Prop} {w : World} {xs : List (BitVec 8)} {a : Option Addr} {c : Nat} (h : SB.rep S w [.slice a xs.length c] xs) {k n : Nat} (hs : xs.length ≤ 65536) (hk : 1 ≤ k) (hkn : k ≤ n) (hn : n ≤ 255) :
 Calls Try.prog 46 #[.slice a xs.length c, .I k, .I n] w (Ret fun v w' => Ext w w' ∧ ∃ (ds : List Value) (a : Option Addr) (c : Nat), v = .tuple #[.agg ds.toArray, .slice a (chksOf xs k n).length c, .bool true] ∧ objS.rep (Nw S w) w' ds (objOf xs n) ∧ (Shape.slice chkS).rep (Nw S w) w' [.slice a (chksOf xs k n).length c] (chksOf xs k n)) := by
 have hhl : (headsOf ⟨7, 0, 2⟩ xs.length k (enc xs k n)).length = (enc xs k n).length := headsOf_len
 refine qS (fn := Try.f46) (n := 82) (σ := [(0, .slice a xs.length c), (1, .I k), (2, .I n)]) Try.func46 ?_
 have H := Hp.startF (w := w) (S := S) (G := [Rp SB [.slice a xs.length c] xs]) (.rp h .nil)
 refine qR 1 [.c [0], .c [1]] [(0, .slice a xs.length c), (1, .I k), (2, .I n)] ?_
 refine qG (sq 0 3) ?_
 refine qB .seq 6 (sq 1 3) #[.string (⟨#[]⟩), .int .u64 0, .I 0, .int .u32 0, .I 0, .int .u64 0, .slice none 0 0] 102 H ?_
 intro b1 w2 H
 refine qF 2 [(0, .slice a xs.length c), (1, .I k), (2, .I n), (6, .P b1 0)] ?_
 refine qR 1 [.c [1, 0], .c [2]] [(0, .slice a xs.length c), (1, .I k), (2, .I n), (6, .P b1 0)] ?_
 refine qG (sq 0 9) ?_
 refine qP 3 (sq 3 9) [(0, .slice a xs.length c), (1, .I k), (2, .I n), (6, .P b1 0), (17, .slice a xs.length c), (18, .I k), (19, .I n)] ?_
 refine qK .seq (some 20) (sq 4 9) 29 #[.slice a xs.length c, .I k, .I n] (encode_ok (xs := xs) k n (H.rp 0 rfl) hs hk hkn hn) ?_
 rintro _ w3 hE6 ⟨a4, c5, rfl, hr7⟩
 have H := H.addN hE6 (F := Rp (Shape.slice SB) [.slice a4 (enc xs k n).length c5] (enc xs k n)) hr7
 have hel := enc_len (xs := xs) hkn
 refine qF 5 [(0, .slice a xs.length c), (1, .I k), (2, .I n), (6, .P b1 0), (9, .slice a4 (enc xs k n).length c5), (10, .I 0)] ?_
 refine qR 1 [.c [2, 0], .c [3]] [(0, .slice a xs.length c), (1, .I k), (2, .I n), (6, .P b1 0), (9, .slice a4 (enc xs k n).length c5), (10, .I 0)] ?_
 refine qG (sq 0 11) ?_
 refine qP 5 (sq 5 11) [(0, .slice a xs.length c), (2, .I n), (6, .P b1 0), (9, .slice a4 (enc xs k n).length c5), (10, .I 0), (24, .slice a4 (enc xs k n).length c5), (25, .agg #[.int .u64 7, .I 0, .int .u64 2]), (27, .I ((xs.length : Nat) : Int)), (28, .I k)] ?_
 refine qK .seq (some 29) (sq 6 11) 38 #[.slice a4 (enc xs k n).length c5, .agg #[.int .u64 7, .I 0, .int .u64 2], .I ((xs.length : Nat) : Int), .I k] (heads_ok (S := Av S w [] (idsOf [(b1, .cells #[.string (⟨#[]⟩), .int .u64 0, .I 0, .int .u32 0, .I 0, .int .u64 0, .slice none 0 0] 102 (0, 0))] [])) (cs := enc xs k n) (id := ⟨7, 0, 2⟩) xs.length k (H.rp 0 rfl) (cid_mk (Shape.int_mk (by decide)) (Shape.int_mk (by decide)) (Shape.int_mk (by decide))) (by omega) (by omega) (by omega) (by omega) (encD_all)) ?_
 rintro _ w8 hE11 ⟨a9, c10, rfl, hr12⟩
 have H := H.addN hE11 (F := Rp (Shape.slice hdrS) [.slice a9 ((headsOf (⟨7, 0, 2⟩) xs.length k (enc xs k n)).length) c10] (headsOf (⟨7, 0, 2⟩) xs.length k (enc xs k n))) hr12
 refine qF 5 [(0, .slice a xs.length c), (2, .I n), (6, .P b1 0), (9, .slice a4 (enc xs k n).length c5), (10, .I 0), (11, .slice a9 ((headsOf (⟨7, 0, 2⟩) xs.length k (enc xs k n)).length) c10), (12, .I 0)] ?_
 refine qR 1 [.c [3, 0], .c [4]] [(0, .slice a xs.length c), (2, .I n), (6, .P b1 0), (9, .slice a4 (enc xs k n).length c5), (10, .I 0), (11, .slice a9 ((headsOf (⟨7, 0, 2⟩) xs.length k (enc xs k n)).length) c10), (12, .I 0)] ?_
 refine qG (sq 0 7) ?_
 refine qP 3 (sq 3 7) [(2, .I n), (6, .P b1 0), (9, .slice a4 (enc xs k n).length c5), (10, .I 0), (11, .slice a9 ((headsOf (⟨7, 0, 2⟩) xs.length k (enc xs k n)).length) c10), (12, .I 0), (33, .I ((xs.length : Nat) : Int)), (34, .slice a xs.length c)] ?_
 refine qK .seq (some 35) (sq 4 7) 74 #[.slice a xs.length c] (crc_spec (H.rp 2 rfl)) ?_
 rintro _ w13 hE14 rfl
 have H := H.ext hE14
 refine qP 1 (sq 5 7) [(2, .I n), (6, .P b1 0), (9, .slice a4 (enc xs k n).length c5), (10, .I 0), (11, .slice a9 ((headsOf (⟨7, 0, 2⟩) xs.length k (enc xs k n)).length) c10), (12, .I 0), (36, .agg #[.string (⟨#[97]⟩), .int .u64 7, .I ((xs.length : Nat) : Int), .int .u32 (((crcF xs).toNat : Nat) : Int), .I 0, .int .u64 2, .slice none 0 0])] ?_
 refine qB .seq 13 (sq 6 7) #[.string (⟨#[]⟩), .int .u64 0, .I 0, .int .u32 0, .I 0, .int .u64 0, .slice none 0 0] 102 H ?_
 intro b15 w16 H
 refine RW.store (d := none) (r := (sq 7 7)) (T := 102) (b := b15) (k := 0) (v := .agg #[.string (⟨#[97]⟩), .int .u64 7, .I ((xs.length : Nat) : Int), .int .u32 (((crcF xs).toNat : Nat) : Int), .I 0, .int .u64 2, .slice none 0 0]) (c' := #[.string (⟨#[97]⟩), .int .u64 7, .I ((xs.length : Nat) : Int), .int .u32 (((crcF xs).toNat : Nat) : Int), .I 0, .int .u64 2, .slice none 0 0]) (M' := [(b15, .cells #[.string (⟨#[97]⟩), .int .u64 7, .I ((xs.length : Nat) : Int), .int .u32 (((crcF xs).toNat : Nat) : Int), .I 0, .int .u64 2, .slice none 0 0] 102 (0, 0)), (b1, .cells #[.string (⟨#[]⟩), .int .u64 0, .I 0, .int .u32 0, .I 0, .int .u64 0, .slice none 0 0] 102 (0, 0))]) (by as_aux_lemma => kernel_rfl) H 0 rfl (by as_aux_lemma => kernel_rfl) (by as_aux_lemma => kernel_rfl) ?_
 intro w17 H
 refine qF 0 [(2, .I n), (6, .P b1 0), (9, .slice a4 (enc xs k n).length c5), (10, .I 0), (11, .slice a9 ((headsOf (⟨7, 0, 2⟩) xs.length k (enc xs k n)).length) c10), (12, .I 0), (13, .P b15 0)] ?_
 refine qR 2 [.c [4, 0, 0], .c [4, 0, 1], .c [5]] [(2, .I n), (6, .P b1 0), (9, .slice a4 (enc xs k n).length c5), (10, .I 0), (11, .slice a9 ((headsOf (⟨7, 0, 2⟩) xs.length k (enc xs k n)).length) c10), (12, .I 0), (13, .P b15 0)] ?_
 refine qG (sq 0 18) ?_
 refine qP 13 (sq 13 18) [(2, .I n), (6, .P b1 0), (9, .slice a4 (enc xs k n).length c5), (11, .slice a9 ((headsOf (⟨7, 0, 2⟩) xs.length k (enc xs k n)).length) c10), (13, .P b15 0), (49, .bool ((((enc xs k n).length : Nat) : Int) != (n : Int)))] ?_
 refine tN (fun b_ => [(2, .I n), (6, .P b1 0), (9, .slice a4 (enc xs k n).length c5), (11, .slice a9 ((headsOf (⟨7, 0, 2⟩) xs.length k (enc xs k n)).length) c10), (13, .P b15 0), (49, .bool b_)]) (((enc xs k n).length : Nat) : Int) (n : Int) (fun h18 => ?_) (fun h18 => ?_)
 ·
  omega
 ·
  refine qF 5 [(2, .I n), (6, .P b1 0), (9, .slice a4 (enc xs k n).length c5), (11, .slice a9 ((headsOf (⟨7, 0, 2⟩) xs.length k (enc xs k n)).length) c10), (13, .P b15 0), (54, .bool ((((headsOf (⟨7, 0, 2⟩) xs.length k (enc xs k n)).length : Nat) : Int) != (n : Int)))] ?_
  refine qN (((headsOf (⟨7, 0, 2⟩) xs.length k (enc xs k n)).length : Nat) : Int) (n : Int) (fun h19 => ?_) (fun h19 => ?_)
  ·
   omega
  ·
   refine qR 7 [.c [6, 0, 1, 0], .b 0, .c [7]] [(2, .I n), (6, .P b1 0), (9, .slice a4 (enc xs k n).length c5), (11, .slice a9 ((headsOf (⟨7, 0, 2⟩) xs.length k (enc xs k n)).length) c10), (13, .P b15 0), (14, .slice none 0 0), (15, .I 0)] ?_
   have H := (H.ownNil chkS 92).ownNil (Shape.int .i64) 3
   have H : Hp w S [] [(b15, .cells #[.string (⟨#[97]⟩), .int .u64 7, .I ((xs.length : Nat) : Int), .int .u32 (((crcF xs).toNat : Nat) : Int), .I 0, .int .u64 2, .slice none 0 0] 102 (0, 0)), (b1, .cells #[.string (⟨#[]⟩), .int .u64 0, .I 0, .int .u32 0, .I 0, .int .u64 0, .slice none 0 0] 102 (0, 0))] [⟨Shape.int .i64, 3, .slice none (nodesTo 0).length 0, nodesTo 0⟩, ⟨chkS, 92, .slice none (((chksOf xs k n).take 0).length) 0, (chksOf xs k n).take 0⟩] [Rp (Shape.slice hdrS) [.slice a9 ((headsOf (⟨7, 0, 2⟩) xs.length k (enc xs k n)).length) c10] (headsOf (⟨7, 0, 2⟩) xs.length k (enc xs k n)), Rp (Shape.slice SB) [.slice a4 (enc xs k n).length c5] (enc xs k n), Rp SB [.slice a xs.length c] xs] w17 := H
   have H := H.pick [0, 1] (G' := [Rp (Shape.slice hdrS) [.slice a9 ((headsOf (⟨7, 0, 2⟩) xs.length k (enc xs k n)).length) c10] (headsOf (⟨7, 0, 2⟩) xs.length k (enc xs k n)), Rp (Shape.slice SB) [.slice a4 (enc xs k n).length c5] (enc xs k n)]) rfl
   have H := H.drop (M' := [(b15, .cells #[.string (⟨#[97]⟩), .int .u64 7, .I ((xs.length : Nat) : Int), .int .u32 (((crcF xs).toNat : Nat) : Int), .I 0, .int .u64 2, .slice none (nodesTo 0).length 0] 102 (0, 0)), (b1, .cells #[.string (⟨#[]⟩), .int .u64 0, .I 0, .int .u32 0, .I 0, .int .u64 0, .slice none 0 0] 102 (0, 0))]) (W' := [⟨Shape.int .i64, 3, .slice none (nodesTo 0).length 0, nodesTo 0⟩, ⟨chkS, 92, .slice none (((chksOf xs k n).take 0).length) 0, (chksOf xs k n).take 0⟩]) (by repeat (first | exact List.Sublist.refl _ | exact List.nil_sublist _ | apply List.Sublist.cons_cons | apply List.Sublist.cons)) (by repeat (first | exact List.Sublist.refl _ | exact List.nil_sublist _ | apply List.Sublist.cons_cons | apply List.Sublist.cons))
   refine WK.loop (α := Nat × Option Addr × Nat × Option Addr × Nat) (b := cd Try.prog 46 [6, 0, 1, 0, 0]) (by as_aux_lemma => kernel_rfl) (fun st_ => match st_ with | (i, ao, co, bo, do_) => [(2, .I n), (6, .P b1 0), (9, .slice a4 (enc xs k n).length c5), (11, .slice a9 ((headsOf (⟨7, 0, 2⟩) xs.length k (enc xs k n)).length) c10), (13, .P b15 0), (14, .slice bo (((chksOf xs k n).take i).length) do_), (15, .I i)]) (fun st_ w' => match st_ with | (i, ao, co, bo, do_) => Hp w S [] [(b15, .cells #[.string (⟨#[97]⟩), .int .u64 7, .I ((xs.length : Nat) : Int), .int .u32 (((crcF xs).toNat : Nat) : Int), .I 0, .int .u64 2, .slice ao (nodesTo i).length co] 102 (0, 0)), (b1, .cells #[.string (⟨#[]⟩), .int .u64 0, .I 0, .int .u32 0, .I 0, .int .u64 0, .slice none 0 0] 102 (0, 0))] [⟨Shape.int .i64, 3, .slice ao (nodesTo i).length co, nodesTo i⟩, ⟨chkS, 92, .slice bo (((chksOf xs k n).take i).length) do_, (chksOf xs k n).take i⟩] [Rp (Shape.slice hdrS) [.slice a9 ((headsOf (⟨7, 0, 2⟩) xs.length k (enc xs k n)).length) c10] (headsOf (⟨7, 0, 2⟩) xs.length k (enc xs k n)), Rp (Shape.slice SB) [.slice a4 (enc xs k n).length c5] (enc xs k n)] w' ∧ i ≤ n) (fun st_ => match st_ with | (i, ao, co, bo, do_) => n - i) (0, none, 0, none, 0) ⟨H, Nat.zero_le _⟩ (rfl) ?_
   rintro ⟨i, ao, co, bo, do_⟩ w21 ⟨H, hinv0⟩ hback20
   refine qR 3 [.c [6, 0, 1, 0, 0, 0, 1], .c [6, 0, 1, 0, 0, 1], .l [6, 0, 1, 0, 0], .b 0, .c [7]] [(2, .I n), (6, .P b1 0), (9, .slice a4 (enc xs k n).length c5), (11, .slice a9 ((headsOf (⟨7, 0, 2⟩) xs.length k (enc xs k n)).length) c10), (13, .P b15 0), (14, .slice bo (((chksOf xs k n).take i).length) do_), (15, .I i), (58, .bool (decide (((i : Int) : Int) < (n : Int))))] ?_
   refine qD (((i : Int) : Int) < (n : Int)) (fun h22 => ?_) (fun h22 => ?_)
   ·
    refine qR 4 [.c [6, 0, 1, 0, 0, 1, 0, 0, 0], .c [6, 0, 1, 0, 0, 1, 0, 0, 1], .b 1, .c [6, 0, 1, 0, 0, 2], .l [6, 0, 1, 0, 0], .b 0, .c [7]] [(2, .I n), (6, .P b1 0), (9, .slice a4 (enc xs k n).length c5), (11, .slice a9 ((headsOf (⟨7, 0, 2⟩) xs.length k (enc xs k n)).length) c10), (13, .P b15 0), (14, .slice bo (((chksOf xs k n).take i).length) do_), (15, .I i)] ?_
    refine qG (sq 0 8) ?_
    refine qP 1 (sq 1 8) [(2, .I n), (6, .P b1 0), (9, .slice a4 (enc xs k n).length c5), (11, .slice a9 ((headsOf (⟨7, 0, 2⟩) xs.length k (enc xs k n)).length) c10), (13, .P b15 0), (14, .slice bo (((chksOf xs k n).take i).length) do_), (15, .I i), (61, .P b15 6)] ?_
    refine qL .seq 62 (sq 2 8) 25 b15 6 6 (.slice ao (nodesTo i).length co) (H.cells 0 rfl) ?_
    refine qP 1 (sq 3 8) [(2, .I n), (6, .P b1 0), (9, .slice a4 (enc xs k n).length c5), (11, .slice a9 ((headsOf (⟨7, 0, 2⟩) xs.length k (enc xs k n)).length) c10), (13, .P b15 0), (14, .slice bo (((chksOf xs k n).take i).length) do_), (15, .I i), (62, .slice ao (nodesTo i).length co), (63, .I i)] ?_
    refine qI .seq 64 (sq 4 8) ((i : Int) + 1) ?_
    refine RW.new (κ := .seq) (d := some 65) (r := (sq 5 8)) (o := .cells #[.I ((i : Int) + 1)] 3 (0, 0)) (v := fun b => .slice (some ⟨b, 0, none⟩) 1 1) (fun b => by as_aux_lemma => kernel_rfl) (nofun) H ?_
    intro b23 w24 H
    have H := H.freeze 0 rfl (Shape.int .i64) ([(i : Int) + 1] : List Int) 1 (by simp [maxLen]) (by first | exact Nat.le_refl _ | simp) (EsP.cons (c := [.I ((i : Int) + 1)]) i64a EsP.nil)
    have H : Hp w S [] [(b15, .cells #[.string (⟨#[97]⟩), .int .u64 7, .I ((xs.length : Nat) : Int), .int .u32 (((crcF xs).toNat : Nat) : Int), .I 0, .int .u64 2, .slice ao (nodesTo i).length co] 102 (0, 0)), (b1, .cells #[.string (⟨#[]⟩), .int .u64 0, .I 0, .int .u32 0, .I 0, .int .u64 0, .slice none 0 0] 102 (0, 0))] [⟨Shape.int .i64, 3, .slice ao (nodesTo i).length co, nodesTo i⟩, ⟨chkS, 92, .slice bo (((chksOf xs k n).take i).length) do_, (chksOf xs k n).take i⟩] [Rp (Shape.slice (Shape.int .i64)) [.slice (some ⟨b23, 0, none⟩) 1 1] ([(i : Int) + 1] : List Int), Rp (Shape.slice hdrS) [.slice a9 ((headsOf (⟨7, 0, 2⟩) xs.length k (enc xs k n)).length) c10] (headsOf (⟨7, 0, 2⟩) xs.length k (enc xs k n)), Rp (Shape.slice SB) [.slice a4 (enc xs k n).length c5] (enc xs k n)] _ := H
    refine RW.appendW (d := some 66) (r := (sq 6 8)) (T := 25) (ty := 25) (e := 3) (m := 1) (by_ := 8) (v := .slice ao (nodesTo i).length co) (a2 := (some ⟨b23, 0, none⟩)) (l2 := 1) (c2 := 1) (zs := nodesTo (i + 1)) (by as_aux_lemma => kernel_rfl) (by as_aux_lemma => kernel_rfl) rfl H 0 rfl 0 rfl (nodesTo_snoc i) (by rw [nodesTo_len]; omega) ?_
    intro a25 c26 w28 H hc27
    have H : Hp w S [] [(b15, .cells #[.string (⟨#[97]⟩), .int .u64 7, .I ((xs.length : Nat) : Int), .int .u32 (((crcF xs).toNat : Nat) : Int), .I 0, .int .u64 2, .slice ao (nodesTo i).length co] 102 (0, 0)), (b1, .cells #[.string (⟨#[]⟩), .int .u64 0, .I 0, .int .u32 0, .I 0, .int .u64 0, .slice none 0 0] 102 (0, 0))] [⟨Shape.int .i64, 3, .slice a25 ((nodesTo (i + 1)).length) c26, nodesTo (i + 1)⟩, ⟨chkS, 92, .slice bo (((chksOf xs k n).take i).length) do_, (chksOf xs k n).take i⟩] [Rp (Shape.slice (Shape.int .i64)) [.slice (some ⟨b23, 0, none⟩) 1 1] ([(i : Int) + 1] : List Int), Rp (Shape.slice hdrS) [.slice a9 ((headsOf (⟨7, 0, 2⟩) xs.length k (enc xs k n)).length) c10] (headsOf (⟨7, 0, 2⟩) xs.length k (enc xs k n)), Rp (Shape.slice SB) [.slice a4 (enc xs k n).length c5] (enc xs k n)] _ := H
    refine qP 1 (sq 7 8) [(2, .I n), (6, .P b1 0), (9, .slice a4 (enc xs k n).length c5), (11, .slice a9 ((headsOf (⟨7, 0, 2⟩) xs.length k (enc xs k n)).length) c10), (13, .P b15 0), (14, .slice bo (((chksOf xs k n).take i).length) do_), (15, .I i), (66, .slice a25 ((nodesTo (i + 1)).length) c26), (67, .P b15 6)] ?_
    refine RW.store (d := none) (r := (sq 8 8)) (T := 25) (b := b15) (k := 6) (v := .slice a25 ((nodesTo (i + 1)).length) c26) (c' := #[.string (⟨#[97]⟩), .int .u64 7, .I ((xs.length : Nat) : Int), .int .u32 (((crcF xs).toNat : Nat) : Int), .I 0, .int .u64 2, .slice a25 ((nodesTo (i + 1)).length) c26]) (M' := [(b15, .cells #[.string (⟨#[97]⟩), .int .u64 7, .I ((xs.length : Nat) : Int), .int .u32 (((crcF xs).toNat : Nat) : Int), .I 0, .int .u64 2, .slice a25 ((nodesTo (i + 1)).length) c26] 102 (0, 0)), (b1, .cells #[.string (⟨#[]⟩), .int .u64 0, .I 0, .int .u32 0, .I 0, .int .u64 0, .slice none 0 0] 102 (0, 0))]) (by as_aux_lemma => kernel_rfl) H 0 rfl (by as_aux_lemma => kernel_rfl) (by as_aux_lemma => kernel_rfl) ?_
    intro w29 H
    refine qF 0 [(2, .I n), (6, .P b1 0), (9, .slice a4 (enc xs k n).length c5), (11, .slice a9 ((headsOf (⟨7, 0, 2⟩) xs.length k (enc xs k n)).length) c10), (13, .P b15 0), (14, .slice bo (((chksOf xs k n).take i).length) do_), (15, .I i)] ?_
    refine WK.draw1 11 [(0, .qui), (1, .qui), (2, .qui), (3, .qui), (4, .qui), (5, .qui), (6, .qui), (7, .qui), (8, .qui), (9, .qui), (10, .chn)] [(0, .qui), (1, .qui), (2, .qui), (3, .qui), (4, .qui), (5, .qui), (6, .qui), (7, .qui), (8, .qui), (9, .qui), (10, .chn), (11, .seq), (12, .seq)] Try_mixed (by as_aux_lemma => kernel_rfl) (by as_aux_lemma => kernel_rfl) (by as_aux_lemma => kernel_rfl) ?_
    have H := H.draw
    generalize ({ w29 with drawn := w29.drawn + 1 } : World) = w30 at H ⊢
    refine qP 3 [(3, .qui), (4, .qui), (5, .qui), (6, .qui), (7, .qui), (8, .qui), (9, .qui), (10, .chn), (11, .seq), (12, .seq)] [(2, .I n), (6, .P b1 0), (9, .slice a4 (enc xs k n).length c5), (11, .slice a9 ((headsOf (⟨7, 0, 2⟩) xs.length k (enc xs k n)).length) c10), (13, .P b15 0), (14, .slice bo (((chksOf xs k n).take i).length) do_), (15, .I i), (68, .slice bo (((chksOf xs k n).take i).length) do_), (69, .slice a9 ((headsOf (⟨7, 0, 2⟩) xs.length k (enc xs k n)).length) c10), (70, .I i)] ?_
    have hx31 : i < (headsOf (⟨7, 0, 2⟩) xs.length k (enc xs k n)).length := by omega
    refine qX .qui 71 [(4, .qui), (5, .qui), (6, .qui), (7, .qui), (8, .qui), (9, .qui), (10, .chn), (11, .seq), (12, .seq)] 28 53 (i : Int) hdrS (hdAt xs k n i) H 1 rfl i (by omega) (by rw [List.getElem?_eq_getElem (by omega), headsOf_at hkn (by omega)]) ?_
    intro b32 o33 es34 hr35 H
    obtain ⟨cs0q36, rfl, hf37, hf38, hf39, hf40⟩ := hdr_open hr35
    obtain ⟨rfl, hf42, hf43, hf44⟩ := cid_open hf37
    refine qL .qui 72 [(5, .qui), (6, .qui), (7, .qui), (8, .qui), (9, .qui), (10, .chn), (11, .seq), (12, .seq)] 53 b32 o33 0 (.agg (hdrV (hdAt xs k n i)).toArray) (H.fc 0 rfl) ?_
    refine qP 2 [(7, .qui), (8, .qui), (9, .qui), (10, .chn), (11, .seq), (12, .seq)] [(2, .I n), (6, .P b1 0), (9, .slice a4 (enc xs k n).length c5), (11, .slice a9 ((headsOf (⟨7, 0, 2⟩) xs.length k (enc xs k n)).length) c10), (13, .P b15 0), (14, .slice bo (((chksOf xs k n).take i).length) do_), (15, .I i), (68, .slice bo (((chksOf xs k n).take i).length) do_), (72, .agg (hdrV (hdAt xs k n i)).toArray), (73, .slice a4 (enc xs k n).length c5), (74, .I i)] ?_
    have hx45 : i < (enc xs k n).length := by omega
    refine qX .qui 75 [(8, .qui), (9, .qui), (10, .chn), (11, .seq), (12, .seq)] 29 23 (i : Int) SB (rowAt (enc xs k n) i) H 3 rfl i (by omega) (by rw [List.getElem?_eq_getElem (by omega), rowAt_eq (by omega)]) ?_
    intro b46 o47 es48 hr49 H
    obtain ⟨a50, k51, rfl⟩ := Shape.slice_form' hr49
    have H := H.add (F := Rp SB [.slice a50 ((rowAt (enc xs k n) i).length) k51] (rowAt (enc xs k n) i)) hr49
    refine qL .qui 76 [(9, .qui), (10, .chn), (11, .seq), (12, .seq)] 23 b46 o47 0 (.slice a50 ((rowAt (enc xs k n) i).length) k51) (H.fc 1 rfl) ?_
    refine qP 1 [(10, .chn), (11, .seq), (12, .seq)] [(2, .I n), (6, .P b1 0), (9, .slice a4 (enc xs k n).length c5), (11, .slice a9 ((headsOf (⟨7, 0, 2⟩) xs.length k (enc xs k n)).length) c10), (13, .P b15 0), (14, .slice bo (((chksOf xs k n).take i).length) do_), (15, .I i), (68, .slice bo (((chksOf xs k n).take i).length) do_), (77, .agg #[.int .u64 (((hdAt xs k n i).id).version), .I (((hdAt xs k n i).id).index), .int .u64 (((hdAt xs k n i).id).epoch), .I ((hdAt xs k n i).kk), .I ((hdAt xs k n i).nn), .I ((hdAt xs k n i).size), .int .u32 ((((hdAt xs k n i).sum).toNat : Nat) : Int), .slice a50 ((rowAt (enc xs k n) i).length) k51, .bool false])] ?_
    refine RW.new (κ := .chn) (d := some 78) (r := [(11, .seq), (12, .seq)]) (o := .cells #[.int .u64 (((hdAt xs k n i).id).version), .I (((hdAt xs k n i).id).index), .int .u64 (((hdAt xs k n i).id).epoch), .I ((hdAt xs k n i).kk), .I ((hdAt xs k n i).nn), .I ((hdAt xs k n i).size), .int .u32 ((((hdAt xs k n i).sum).toNat : Nat) : Int), .slice a50 ((rowAt (enc xs k n) i).length) k51, .bool false] 92 (0, 0)) (v := fun b => .slice (some ⟨b, 0, none⟩) 1 1) (fun b => by as_aux_lemma => kernel_rfl) (nofun) H ?_
    intro b52 w53 H
    have H := H.freeze 0 rfl chkS ([⟨⟨((hdAt xs k n i).id), (hdAt xs k n i).kk, (hdAt xs k n i).nn, (hdAt xs k n i).size, (hdAt xs k n i).sum⟩, (rowAt (enc xs k n) i), false⟩] : List Chk) 1 (by simp [maxLen]) (by first | exact Nat.le_refl _ | simp) (EsP.cons (c := [.int .u64 (((hdAt xs k n i).id).version), .I (((hdAt xs k n i).id).index), .int .u64 (((hdAt xs k n i).id).epoch), .I ((hdAt xs k n i).kk), .I ((hdAt xs k n i).nn), .I ((hdAt xs k n i).size), .int .u32 ((((hdAt xs k n i).sum).toNat : Nat) : Int), .slice a50 ((rowAt (enc xs k n) i).length) k51, .bool false]) (chk_mk (hdr_mk (cid_mk u64a i64a u64a) i64a i64a i64a Shape.bv_mk) (H.rp 0 rfl) Shape.bool_mk) EsP.nil)
    have H : Hp w S [] [(b15, .cells #[.string (⟨#[97]⟩), .int .u64 7, .I ((xs.length : Nat) : Int), .int .u32 (((crcF xs).toNat : Nat) : Int), .I 0, .int .u64 2, .slice a25 ((nodesTo (i + 1)).length) c26] 102 (0, 0)), (b1, .cells #[.string (⟨#[]⟩), .int .u64 0, .I 0, .int .u32 0, .I 0, .int .u64 0, .slice none 0 0] 102 (0, 0))] [⟨Shape.int .i64, 3, .slice a25 ((nodesTo (i + 1)).length) c26, nodesTo (i + 1)⟩, ⟨chkS, 92, .slice bo (((chksOf xs k n).take i).length) do_, (chksOf xs k n).take i⟩] [Rp (Shape.slice chkS) [.slice (some ⟨b52, 0, none⟩) 1 1] ([⟨⟨((hdAt xs k n i).id), (hdAt xs k n i).kk, (hdAt xs k n i).nn, (hdAt xs k n i).size, (hdAt xs k n i).sum⟩, (rowAt (enc xs k n) i), false⟩] : List Chk), Rp SB [.slice a50 ((rowAt (enc xs k n) i).length) k51] (rowAt (enc xs k n) i), Fc b46 o47 [.slice a50 ((rowAt (enc xs k n) i).length) k51], Fc b32 o33 (hdrV (hdAt xs k n i)), Rp (Shape.slice (Shape.int .i64)) [.slice (some ⟨b23, 0, none⟩) 1 1] ([(i : Int) + 1] : List Int), Rp (Shape.slice hdrS) [.slice a9 ((headsOf (⟨7, 0, 2⟩) xs.length k (enc xs k n)).length) c10] (headsOf (⟨7, 0, 2⟩) xs.length k (enc xs k n)), Rp (Shape.slice SB) [.slice a4 (enc xs k n).length c5] (enc xs k n)] _ := H
    refine RW.appendW (d := some 79) (r := [(12, .seq)]) (T := 103) (ty := 103) (e := 92) (m := 9) (by_ := 88) (v := .slice bo (((chksOf xs k n).take i).length) do_) (a2 := (some ⟨b52, 0, none⟩)) (l2 := 1) (c2 := 1) (zs := (chksOf xs k n).take (i + 1)) (by as_aux_lemma => kernel_rfl) (by as_aux_lemma => kernel_rfl) rfl H 1 rfl 0 rfl (chk_snoc (by omega) rfl) (by rw [List.length_take, chksOf_len]; omega) ?_
    intro a54 c55 w57 H hc56
    have H : Hp w S [] [(b15, .cells #[.string (⟨#[97]⟩), .int .u64 7, .I ((xs.length : Nat) : Int), .int .u32 (((crcF xs).toNat : Nat) : Int), .I 0, .int .u64 2, .slice a25 ((nodesTo (i + 1)).length) c26] 102 (0, 0)), (b1, .cells #[.string (⟨#[]⟩), .int .u64 0, .I 0, .int .u32 0, .I 0, .int .u64 0, .slice none 0 0] 102 (0, 0))] [⟨Shape.int .i64, 3, .slice a25 ((nodesTo (i + 1)).length) c26, nodesTo (i + 1)⟩, ⟨chkS, 92, .slice a54 (((chksOf xs k n).take (i + 1)).length) c55, (chksOf xs k n).take (i + 1)⟩] [Rp (Shape.slice chkS) [.slice (some ⟨b52, 0, none⟩) 1 1] ([⟨⟨((hdAt xs k n i).id), (hdAt xs k n i).kk, (hdAt xs k n i).nn, (hdAt xs k n i).size, (hdAt xs k n i).sum⟩, (rowAt (enc xs k n) i), false⟩] : List Chk), Rp SB [.slice a50 ((rowAt (enc xs k n) i).length) k51] (rowAt (enc xs k n) i), Fc b46 o47 [.slice a50 ((rowAt (enc xs k n) i).length) k51], Fc b32 o33 (hdrV (hdAt xs k n i)), Rp (Shape.slice (Shape.int .i64)) [.slice (some ⟨b23, 0, none⟩) 1 1] ([(i : Int) + 1] : List Int), Rp (Shape.slice hdrS) [.slice a9 ((headsOf (⟨7, 0, 2⟩) xs.length k (enc xs k n)).length) c10] (headsOf (⟨7, 0, 2⟩) xs.length k (enc xs k n)), Rp (Shape.slice SB) [.slice a4 (enc xs k n).length c5] (enc xs k n)] _ := H
    refine qF 1 [(2, .I n), (6, .P b1 0), (9, .slice a4 (enc xs k n).length c5), (11, .slice a9 ((headsOf (⟨7, 0, 2⟩) xs.length k (enc xs k n)).length) c10), (13, .P b15 0), (14, .slice a54 (((chksOf xs k n).take (i + 1)).length) c55), (15, .I i)] ?_
    refine qR 1 [.c [6, 0, 1, 0, 0, 2], .l [6, 0, 1, 0, 0], .b 0, .c [7]] [(2, .I n), (6, .P b1 0), (9, .slice a4 (enc xs k n).length c5), (11, .slice a9 ((headsOf (⟨7, 0, 2⟩) xs.length k (enc xs k n)).length) c10), (13, .P b15 0), (14, .slice a54 (((chksOf xs k n).take (i + 1)).length) c55), (15, .I i)] ?_
    refine qG (sq 0 3) ?_
    refine qP 1 (sq 1 3) [(2, .I n), (6, .P b1 0), (9, .slice a4 (enc xs k n).length c5), (11, .slice a9 ((headsOf (⟨7, 0, 2⟩) xs.length k (enc xs k n)).length) c10), (13, .P b15 0), (14, .slice a54 (((chksOf xs k n).take (i + 1)).length) c55), (15, .I i), (59, .I i)] ?_
    refine qI .seq 60 (sq 2 3) ((i : Int) + 1) ?_
    refine qF 1 [(2, .I n), (6, .P b1 0), (9, .slice a4 (enc xs k n).length c5), (11, .slice a9 ((headsOf (⟨7, 0, 2⟩) xs.length k (enc xs k n)).length) c10), (13, .P b15 0), (14, .slice a54 (((chksOf xs k n).take (i + 1)).length) c55), (15, .I ((i : Int) + 1))] ?_
    have H := H.pick [5, 6] (G' := [Rp (Shape.slice hdrS) [.slice a9 ((headsOf (⟨7, 0, 2⟩) xs.length k (enc xs k n)).length) c10] (headsOf (⟨7, 0, 2⟩) xs.length k (enc xs k n)), Rp (Shape.slice SB) [.slice a4 (enc xs k n).length c5] (enc xs k n)]) rfl
    exact WK.back (hback20 (i + 1, a25, c26, a54, c55) _ ⟨H, by omega⟩ (by first | omega | (simp only []; omega))) (by as_aux_lemma => kernel_rfl)
   ·
    refine qR 2 [.c [7, 0], .c [8]] [(6, .P b1 0), (13, .P b15 0), (14, .slice bo (((chksOf xs k n).take i).length) do_)] ?_
    refine qG (sq 0 5) ?_
    refine qL .seq 80 (sq 1 5) 102 b15 0 0 (.agg #[.string (⟨#[97]⟩), .int .u64 7, .I ((xs.length : Nat) : Int), .int .u32 (((crcF xs).toNat : Nat) : Int), .I 0, .int .u64 2, .slice ao (nodesTo i).length co]) (H.cells 0 rfl) ?_
    refine qP 1 (sq 2 5) [(6, .P b1 0), (80, .agg #[.string (⟨#[97]⟩), .int .u64 7, .I ((xs.length : Nat) : Int), .int .u32 (((crcF xs).toNat : Nat) : Int), .I 0, .int .u64 2, .slice ao (nodesTo i).length co]), (81, .slice bo (((chksOf xs k n).take i).length) do_)] ?_
    refine RW.store (d := none) (r := (sq 3 5)) (T := 102) (b := b1) (k := 0) (v := .agg #[.string (⟨#[97]⟩), .int .u64 7, .I ((xs.length : Nat) : Int), .int .u32 (((crcF xs).toNat : Nat) : Int), .I 0, .int .u64 2, .slice ao (nodesTo i).length co]) (c' := #[.string (⟨#[97]⟩), .int .u64 7, .I ((xs.length : Nat) : Int), .int .u32 (((crcF xs).toNat : Nat) : Int), .I 0, .int .u64 2, .slice ao (nodesTo i).length co]) (M' := [(b15, .cells #[.string (⟨#[97]⟩), .int .u64 7, .I ((xs.length : Nat) : Int), .int .u32 (((crcF xs).toNat : Nat) : Int), .I 0, .int .u64 2, .slice ao (nodesTo i).length co] 102 (0, 0)), (b1, .cells #[.string (⟨#[97]⟩), .int .u64 7, .I ((xs.length : Nat) : Int), .int .u32 (((crcF xs).toNat : Nat) : Int), .I 0, .int .u64 2, .slice ao (nodesTo i).length co] 102 (0, 0))]) (by as_aux_lemma => kernel_rfl) H 1 rfl (by as_aux_lemma => kernel_rfl) (by as_aux_lemma => kernel_rfl) ?_
    intro w58 H
    refine qF 2 [(6, .P b1 0), (7, .slice bo (((chksOf xs k n).take i).length) do_), (8, .bool true)] ?_
    refine WK.retBy (v := .tuple #[.agg #[.string (⟨#[97]⟩), .int .u64 7, .I ((xs.length : Nat) : Int), .int .u32 (((crcF xs).toNat : Nat) : Int), .I 0, .int .u64 2, .slice ao (nodesTo i).length co], .slice bo (((chksOf xs k n).take i).length) do_, .bool true]) Try.func46 (by as_aux_lemma => kernel_rfl) (RV.res3 (x := .cell 6 102) (y := .tmp 7) (z := .tmp 8) (by as_aux_lemma => kernel_rfl) (RV.cell (k := 0) (by as_aux_lemma => kernel_rfl) (H.cells 1 rfl) rfl (by as_aux_lemma => kernel_rfl)) (RV.tmp (by as_aux_lemma => kernel_rfl)) (RV.tmp (by as_aux_lemma => kernel_rfl))) ?_
    have H : Hp w S [] [(b15, .cells #[.string (⟨#[97]⟩), .int .u64 7, .I ((xs.length : Nat) : Int), .int .u32 (((crcF xs).toNat : Nat) : Int), .I 0, .int .u64 2, .slice ao (nodesTo i).length co] 102 (0, 0)), (b1, .cells #[.string (⟨#[97]⟩), .int .u64 7, .I ((xs.length : Nat) : Int), .int .u32 (((crcF xs).toNat : Nat) : Int), .I 0, .int .u64 2, .slice ao (nodesTo i).length co] 102 (0, 0))] [⟨chkS, 92, .slice bo (((chksOf xs k n).take i).length) do_, (chksOf xs k n).take i⟩] [Rp (Shape.slice (Shape.int .i64)) [.slice ao (nodesTo i).length co] (nodesTo i), Rp (Shape.slice hdrS) [.slice a9 ((headsOf (⟨7, 0, 2⟩) xs.length k (enc xs k n)).length) c10] (headsOf (⟨7, 0, 2⟩) xs.length k (enc xs k n)), Rp (Shape.slice SB) [.slice a4 (enc xs k n).length c5] (enc xs k n)] _ := H.freezeW 0 rfl
    have H : Hp w S [] [(b15, .cells #[.string (⟨#[97]⟩), .int .u64 7, .I ((xs.length : Nat) : Int), .int .u32 (((crcF xs).toNat : Nat) : Int), .I 0, .int .u64 2, .slice ao (nodesTo i).length co] 102 (0, 0)), (b1, .cells #[.string (⟨#[97]⟩), .int .u64 7, .I ((xs.length : Nat) : Int), .int .u32 (((crcF xs).toNat : Nat) : Int), .I 0, .int .u64 2, .slice ao (nodesTo i).length co] 102 (0, 0))] [] [Rp (Shape.slice chkS) [.slice bo (((chksOf xs k n).take i).length) do_] ((chksOf xs k n).take i), Rp (Shape.slice (Shape.int .i64)) [.slice ao (nodesTo i).length co] (nodesTo i), Rp (Shape.slice hdrS) [.slice a9 ((headsOf (⟨7, 0, 2⟩) xs.length k (enc xs k n)).length) c10] (headsOf (⟨7, 0, 2⟩) xs.length k (enc xs k n)), Rp (Shape.slice SB) [.slice a4 (enc xs k n).length c5] (enc xs k n)] _ := H.freezeW 0 rfl
    have hie : i = n := by omega
    subst hie
    have hte : (chksOf xs k i).take i = chksOf xs k i := List.take_of_length_le (by rw [chksOf_len]; exact Nat.le_refl _)
    rw [hte] at H ⊢
    exact ⟨_, rfl, H.done, [.string (⟨#[97]⟩), .int .u64 7, .I ((xs.length : Nat) : Int), .int .u32 (((crcF xs).toNat : Nat) : Int), .I 0, .int .u64 2, .slice ao (nodesTo i).length co], _, _, rfl, H.out (obj_mk (y0 := ⟨#[97]⟩) (y1 := 7) (y2 := ((xs.length : Nat) : Int)) (y3 := crcF xs) (y4 := 0) (y5 := 2) (y6 := nodesTo i) ⟨rfl, by first | assumption | (simp [maxLen]; done) | decide⟩ (Shape.int_mk (by decide)) i64a Shape.bv_mk (Shape.int_mk (by decide)) (Shape.int_mk (by decide)) (H.rp 1 rfl)), H.out (H.rp 0 rfl)⟩


end Go.Proofs.Ytppcdmbkgficiaa
