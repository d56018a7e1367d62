import Derived.Test.YtppcdmbkgficiaaG4
import Derived.Test.YtppcdmbkgficiaaBxHeld
namespace Go.Proofs.Ytppcdmbkgficiaa
open Go.BX

def headsOf (id : CID) (size k : Nat) (cs : List (List (BitVec 8))) : List Hdr := cs.mapIdx fun i c => ⟨⟨id.version, (i : Int), id.epoch⟩, (k : Int), (cs.length : Int), (size : Int), crcF c⟩
theorem headsOf_len {id : CID} {size k : Nat} {cs : List (List (BitVec 8))} : (headsOf id size k cs).length = cs.length := by simp [headsOf]
theorem headsOf_get {id : CID} {size k i : Nat} {cs : List (List (BitVec 8))} (h : i < cs.length) : (headsOf id size k cs)[i]? = some ⟨⟨id.version, (i : Int), id.epoch⟩, (k : Int), (cs.length : Int), (size : Int), crcF cs[i]⟩ := by
 simp [headsOf, h]

theorem heads_ok {S : Nat → Prop} {w : World} {cs : List (List (BitVec 8))} {ac : Option Addr} {kc : Nat} {id : CID} {ids : List Value} (size k : Nat) (h : (Shape.slice SB).rep S w [.slice ac cs.length kc] cs) (hid : cidS.rep S w ids id) (hs : size ≤ 65536) (hk : 1 ≤ k) (hkn : k ≤ cs.length) (hn : cs.length ≤ 255) (hall : ∀ c ∈ cs, c.length = lenOf size k) :
 Calls Try.prog 38 #[.slice ac cs.length kc, .agg ids.toArray, .I size, .I k] w (Ret fun v w' => Ext w w' ∧ ∃ (a : Option Addr) (c : Nat), v = .tuple #[.slice a (headsOf id size k cs).length c, .I 0] ∧ (Shape.slice hdrS).rep (Nw S w) w' [.slice a (headsOf id size k cs).length c] (headsOf id size k cs)) := by
 obtain ⟨rfl, hb1, hb2, hb3⟩ := cid_open hid
 refine qS (fn := Try.f38) (n := 52) (σ := [(0, .slice ac cs.length kc), (1, .agg #[.int .u64 id.version, .I id.index, .int .u64 id.epoch]), (2, .I size), (3, .I k)]) Try.func38 ?_
 have H := Hp.startF (w := w) (S := S) (G := [Rp (Shape.slice SB) [.slice ac cs.length kc] cs]) (.rp h .nil)
 refine qR 1 [.c [0], .c [1]] [(0, .slice ac cs.length kc), (1, .agg #[.int .u64 id.version, .I id.index, .int .u64 id.epoch]), (2, .I size), (3, .I k)] ?_
 refine qG (sq 0 3) ?_
 refine qB .seq 5 (sq 1 3) #[.int .u64 id.version, .I id.index, .int .u64 id.epoch] 50 H ?_
 intro b1 w2 H
 refine qF 2 [(0, .slice ac cs.length kc), (2, .I size), (3, .I k), (5, .P b1 0)] ?_
 refine qR 1 [.c [1, 0], .c [2]] [(0, .slice ac cs.length kc), (2, .I size), (3, .I k), (5, .P b1 0)] ?_
 refine qG (sq 0 10) ?_
 refine qP 4 (sq 4 10) [(0, .slice ac cs.length kc), (2, .I size), (3, .I k), (5, .P b1 0), (16, .I size), (17, .I k), (19, .I ((cs.length : Nat) : Int))] ?_
 refine qK .seq (some 20) (sq 5 10) 66 #[.I size, .I k, .I ((cs.length : Nat) : Int)] (sizes_ok (S := fun _ => True) size k cs.length (by omega) (by omega) (by omega) (by omega)) ?_
 rintro _ w3 hE4 rfl
 have H := H.ext hE4
 refine qF 5 [(0, .slice ac cs.length kc), (2, .I size), (3, .I k), (5, .P b1 0), (10, .I ((lenOf size k : Nat) : Int)), (11, .I 0)] ?_
 refine qR 11 [.c [4, 0, 1, 0], .b 0, .c [5]] [(0, .slice ac cs.length kc), (2, .I size), (3, .I k), (5, .P b1 0), (10, .I ((lenOf size k : Nat) : Int)), (12, .slice none 0 0), (26, .slice ac cs.length kc), (27, .I ((cs.length : Nat) : Int)), (28, .I 0)] ?_
 have H := H.ownNil hdrS 53
 refine WK.loop (α := Nat × Int × Option Addr × Nat) (b := cd Try.prog 38 [4, 0, 1, 0, 0]) (by as_aux_lemma => kernel_rfl) (fun st_ => match st_ with | (i, x, ao, co) => [(0, .slice ac cs.length kc), (2, .I size), (3, .I k), (5, .P b1 0), (10, .I ((lenOf size k : Nat) : Int)), (12, .slice ao (((headsOf id size k cs).take i).length) co), (26, .slice ac cs.length kc), (27, .I ((cs.length : Nat) : Int)), (28, .I i)]) (fun st_ w' => match st_ with | (i, x, ao, co) => Hp w S [] [(b1, .cells #[.int .u64 id.version, .I x, .int .u64 id.epoch] 50 (0, 0))] [⟨hdrS, 53, .slice ao (((headsOf id size k cs).take i).length) co, (headsOf id size k cs).take i⟩] [Rp (Shape.slice SB) [.slice ac cs.length kc] cs] w' ∧ i ≤ cs.length) (fun st_ => match st_ with | (i, x, ao, co) => cs.length - i) (0, id.index, none, 0) ⟨H, Nat.zero_le _⟩ (rfl) ?_
 rintro ⟨i, x, ao, co⟩ w6 ⟨H, hinv0⟩ hback5
 refine qR 3 [.c [4, 0, 1, 0, 0, 1, 0], .c [4, 0, 1, 0, 0, 2], .l [4, 0, 1, 0, 0], .b 0, .c [5]] [(0, .slice ac cs.length kc), (2, .I size), (3, .I k), (5, .P b1 0), (10, .I ((lenOf size k : Nat) : Int)), (12, .slice ao (((headsOf id size k cs).take i).length) co), (26, .slice ac cs.length kc), (27, .I ((cs.length : Nat) : Int)), (28, .I i), (29, .bool (decide (((i : Int) : Int) < ((cs.length : Nat) : Int))))] ?_
 refine qD (((i : Int) : Int) < ((cs.length : Nat) : Int)) (fun h7 => ?_) (fun h7 => ?_)
 ·
  refine qR 4 [.c [4, 0, 1, 0, 0, 2, 0, 0, 0], .c [4, 0, 1, 0, 0, 2, 0, 0, 1], .b 1, .c [4, 0, 1, 0, 0, 3], .l [4, 0, 1, 0, 0], .b 0, .c [5]] [(0, .slice ac cs.length kc), (2, .I size), (3, .I k), (5, .P b1 0), (10, .I ((lenOf size k : Nat) : Int)), (12, .slice ao (((headsOf id size k cs).take i).length) co), (26, .slice ac cs.length kc), (27, .I ((cs.length : Nat) : Int)), (28, .I i)] ?_
  refine qG (sq 0 5) ?_
  refine qP 1 (sq 1 5) [(0, .slice ac cs.length kc), (2, .I size), (3, .I k), (5, .P b1 0), (10, .I ((lenOf size k : Nat) : Int)), (12, .slice ao (((headsOf id size k cs).take i).length) co), (26, .slice ac cs.length kc), (27, .I ((cs.length : Nat) : Int)), (28, .I i), (30, .I i)] ?_
  have hx8 : i < cs.length := by omega
  refine qX .seq 31 (sq 2 5) 29 23 (i : Int) SB (cs[i]) H 0 rfl i (by omega) (List.getElem?_eq_getElem hx8) ?_
  intro b9 o10 es11 hr12 H
  obtain ⟨a13, k14, rfl⟩ := Shape.slice_form' hr12
  have H := H.add (F := Rp SB [.slice a13 (cs[i]).length k14] (cs[i])) hr12
  refine qL .seq 32 (sq 3 5) 23 b9 o10 0 (.slice a13 (cs[i]).length k14) (H.fc 1 rfl) ?_
  refine qF 2 [(0, .slice ac cs.length kc), (2, .I size), (3, .I k), (5, .P b1 0), (10, .I ((lenOf size k : Nat) : Int)), (12, .slice ao (((headsOf id size k cs).take i).length) co), (13, .I i), (14, .slice a13 (cs[i]).length k14), (26, .slice ac cs.length kc), (27, .I ((cs.length : Nat) : Int)), (28, .I i)] ?_
  refine qR 3 [.c [4, 0, 1, 0, 0, 2, 0, 0, 1, 0, 1], .c [4, 0, 1, 0, 0, 2, 0, 0, 2], .b 1, .c [4, 0, 1, 0, 0, 3], .l [4, 0, 1, 0, 0], .b 0, .c [5]] [(0, .slice ac cs.length kc), (2, .I size), (3, .I k), (5, .P b1 0), (10, .I ((lenOf size k : Nat) : Int)), (12, .slice ao (((headsOf id size k cs).take i).length) co), (13, .I i), (14, .slice a13 (cs[i]).length k14), (26, .slice ac cs.length kc), (27, .I ((cs.length : Nat) : Int)), (28, .I i), (36, .bool ((((cs[i]).length : Nat) : Int) != ((lenOf size k : Nat) : Int)))] ?_
  refine qN (((cs[i]).length : Nat) : Int) ((lenOf size k : Nat) : Int) (fun h15 => ?_) (fun h15 => ?_)
  ·
   exact absurd (congrArg (fun q : Nat => (q : Int)) (hall (cs[i]) (List.getElem_mem _))) h15
  ·
   refine qR 2 [.c [4, 0, 1, 0, 0, 2, 0, 0, 2, 0], .c [4, 0, 1, 0, 0, 2, 0, 0, 3], .b 1, .c [4, 0, 1, 0, 0, 3], .l [4, 0, 1, 0, 0], .b 0, .c [5]] [(0, .slice ac cs.length kc), (2, .I size), (3, .I k), (5, .P b1 0), (10, .I ((lenOf size k : Nat) : Int)), (12, .slice ao (((headsOf id size k cs).take i).length) co), (13, .I i), (14, .slice a13 (cs[i]).length k14), (26, .slice ac cs.length kc), (27, .I ((cs.length : Nat) : Int)), (28, .I i)] ?_
   refine qG (sq 0 3) ?_
   refine qP 2 (sq 2 3) [(0, .slice ac cs.length kc), (2, .I size), (3, .I k), (5, .P b1 0), (10, .I ((lenOf size k : Nat) : Int)), (12, .slice ao (((headsOf id size k cs).take i).length) co), (14, .slice a13 (cs[i]).length k14), (26, .slice ac cs.length kc), (27, .I ((cs.length : Nat) : Int)), (28, .I i), (37, .I i), (38, .P b1 1)] ?_
   refine qW 3 b1 1 (sq 3 3) (.I i) [(b1, .cells #[.int .u64 id.version, .I i, .int .u64 id.epoch] 50 (0, 0))] H 0 rfl rfl ?_
   intro w16 H
   refine qF 0 [(0, .slice ac cs.length kc), (2, .I size), (3, .I k), (5, .P b1 0), (10, .I ((lenOf size k : Nat) : Int)), (12, .slice ao (((headsOf id size k cs).take i).length) co), (14, .slice a13 (cs[i]).length k14), (26, .slice ac cs.length kc), (27, .I ((cs.length : Nat) : Int)), (28, .I i)] ?_
   refine WK.draw1 10 [(0, .qui), (1, .qui), (2, .qui), (3, .qui), (4, .qui), (5, .qui), (6, .qui), (7, .chn), (8, .qui), (9, .chn)] [(0, .qui), (1, .qui), (2, .qui), (3, .qui), (4, .qui), (5, .qui), (6, .qui), (7, .chn), (8, .qui), (9, .chn), (10, .seq), (11, .seq)] Try_mixed (by as_aux_lemma => kernel_rfl) (by as_aux_lemma => kernel_rfl) (by as_aux_lemma => kernel_rfl) ?_
   have H := H.draw
   generalize ({ w16 with drawn := w16.drawn + 1 } : World) = w17 at H ⊢
   refine qP 1 [(1, .qui), (2, .qui), (3, .qui), (4, .qui), (5, .qui), (6, .qui), (7, .chn), (8, .qui), (9, .chn), (10, .seq), (11, .seq)] [(0, .slice ac cs.length kc), (2, .I size), (3, .I k), (5, .P b1 0), (10, .I ((lenOf size k : Nat) : Int)), (12, .slice ao (((headsOf id size k cs).take i).length) co), (14, .slice a13 (cs[i]).length k14), (26, .slice ac cs.length kc), (27, .I ((cs.length : Nat) : Int)), (28, .I i), (39, .slice ao (((headsOf id size k cs).take i).length) co)] ?_
   refine qL .qui 40 [(2, .qui), (3, .qui), (4, .qui), (5, .qui), (6, .qui), (7, .chn), (8, .qui), (9, .chn), (10, .seq), (11, .seq)] 50 b1 0 0 (.agg #[.int .u64 id.version, .I i, .int .u64 id.epoch]) (H.cells 0 rfl) ?_
   refine qP 5 [(7, .chn), (8, .qui), (9, .chn), (10, .seq), (11, .seq)] [(0, .slice ac cs.length kc), (2, .I size), (3, .I k), (5, .P b1 0), (10, .I ((lenOf size k : Nat) : Int)), (12, .slice ao (((headsOf id size k cs).take i).length) co), (26, .slice ac cs.length kc), (27, .I ((cs.length : Nat) : Int)), (28, .I i), (39, .slice ao (((headsOf id size k cs).take i).length) co), (40, .agg #[.int .u64 id.version, .I i, .int .u64 id.epoch]), (41, .I k), (43, .I ((cs.length : Nat) : Int)), (44, .I size), (45, .slice a13 (cs[i]).length k14)] ?_
   refine qK .chn (some 46) [(8, .qui), (9, .chn), (10, .seq), (11, .seq)] 74 #[.slice a13 (cs[i]).length k14] (crc_spec (H.rp 0 rfl)) ?_
   rintro _ w18 hE19 rfl
   have H := H.ext hE19
   refine qP 1 [(9, .chn), (10, .seq), (11, .seq)] [(0, .slice ac cs.length kc), (2, .I size), (3, .I k), (5, .P b1 0), (10, .I ((lenOf size k : Nat) : Int)), (12, .slice ao (((headsOf id size k cs).take i).length) co), (26, .slice ac cs.length kc), (27, .I ((cs.length : Nat) : Int)), (28, .I i), (39, .slice ao (((headsOf id size k cs).take i).length) co), (47, .agg #[.int .u64 id.version, .I i, .int .u64 id.epoch, .I k, .I ((cs.length : Nat) : Int), .I size, .int .u32 (((crcF (cs[i])).toNat : Nat) : Int)])] ?_
   refine RW.new (κ := .chn) (d := some 48) (r := [(10, .seq), (11, .seq)]) (o := .cells #[.int .u64 id.version, .I i, .int .u64 id.epoch, .I k, .I ((cs.length : Nat) : Int), .I size, .int .u32 (((crcF (cs[i])).toNat : Nat) : Int)] 53 (0, 0)) (v := fun b => .slice (some ⟨b, 0, none⟩) 1 1) (fun b => by as_aux_lemma => kernel_rfl) (nofun) H ?_
   intro b20 w21 H
   have H := H.freeze 0 rfl hdrS ([⟨⟨id.version, (i : Int), id.epoch⟩, (k : Int), ((cs.length : Nat) : Int), (size : Int), crcF (cs[i])⟩] : List Hdr) 1 (by simp [maxLen]) (by first | exact Nat.le_refl _ | simp) (EsP.cons (c := [.int .u64 id.version, .I i, .int .u64 id.epoch, .I k, .I ((cs.length : Nat) : Int), .I size, .int .u32 (((crcF (cs[i])).toNat : Nat) : Int)]) (hdr_mk (cid_mk u64a i64a u64a) i64a i64a i64a Shape.bv_mk) EsP.nil)
   have H : Hp w S [] [(b1, .cells #[.int .u64 id.version, .I i, .int .u64 id.epoch] 50 (0, 0))] [⟨hdrS, 53, .slice ao (((headsOf id size k cs).take i).length) co, (headsOf id size k cs).take i⟩] [Rp (Shape.slice hdrS) [.slice (some ⟨b20, 0, none⟩) 1 1] ([⟨⟨id.version, (i : Int), id.epoch⟩, (k : Int), ((cs.length : Nat) : Int), (size : Int), crcF (cs[i])⟩] : List Hdr), Rp SB [.slice a13 (cs[i]).length k14] (cs[i]), Fc b9 o10 [.slice a13 (cs[i]).length k14], Rp (Shape.slice SB) [.slice ac cs.length kc] cs] _ := H
   refine RW.appendW (d := some 49) (r := [(11, .seq)]) (T := 28) (ty := 28) (e := 53) (m := 7) (by_ := 56) (v := .slice ao (((headsOf id size k cs).take i).length) co) (a2 := (some ⟨b20, 0, none⟩)) (l2 := 1) (c2 := 1) (zs := (headsOf id size k cs).take (i + 1)) (by as_aux_lemma => kernel_rfl) (by as_aux_lemma => kernel_rfl) rfl H 0 rfl 0 rfl (take_snoc (headsOf_get (by omega))) (by rw [List.length_take]; omega) ?_
   intro a22 c23 w25 H hc24
   have H : Hp w S [] [(b1, .cells #[.int .u64 id.version, .I i, .int .u64 id.epoch] 50 (0, 0))] [⟨hdrS, 53, .slice a22 (((headsOf id size k cs).take (i + 1)).length) c23, (headsOf id size k cs).take (i + 1)⟩] [Rp (Shape.slice hdrS) [.slice (some ⟨b20, 0, none⟩) 1 1] ([⟨⟨id.version, (i : Int), id.epoch⟩, (k : Int), ((cs.length : Nat) : Int), (size : Int), crcF (cs[i])⟩] : List Hdr), Rp SB [.slice a13 (cs[i]).length k14] (cs[i]), Fc b9 o10 [.slice a13 (cs[i]).length k14], Rp (Shape.slice SB) [.slice ac cs.length kc] cs] _ := H
   refine qF 1 [(0, .slice ac cs.length kc), (2, .I size), (3, .I k), (5, .P b1 0), (10, .I ((lenOf size k : Nat) : Int)), (12, .slice a22 (((headsOf id size k cs).take (i + 1)).length) c23), (26, .slice ac cs.length kc), (27, .I ((cs.length : Nat) : Int)), (28, .I i)] ?_
   refine qR 1 [.c [4, 0, 1, 0, 0, 3], .l [4, 0, 1, 0, 0], .b 0, .c [5]] [(0, .slice ac cs.length kc), (2, .I size), (3, .I k), (5, .P b1 0), (10, .I ((lenOf size k : Nat) : Int)), (12, .slice a22 (((headsOf id size k cs).take (i + 1)).length) c23), (26, .slice ac cs.length kc), (27, .I ((cs.length : Nat) : Int)), (28, .I i)] ?_
   refine qG (sq 0 2) ?_
   refine qI .seq 50 (sq 1 2) ((i : Int) + 1) ?_
   refine qF 1 [(0, .slice ac cs.length kc), (2, .I size), (3, .I k), (5, .P b1 0), (10, .I ((lenOf size k : Nat) : Int)), (12, .slice a22 (((headsOf id size k cs).take (i + 1)).length) c23), (26, .slice ac cs.length kc), (27, .I ((cs.length : Nat) : Int)), (28, .I ((i : Int) + 1))] ?_
   have H := H.pick [3] rfl
   exact WK.back (hback5 (i + 1, (i : Int), a22, c23) _ ⟨H, by omega⟩ (by first | omega | (simp only []; omega))) (by as_aux_lemma => kernel_rfl)
 ·
  refine qR 3 [.c [6]] [(8, .slice ao (((headsOf id size k cs).take i).length) co), (9, .I 0)] ?_
  refine qT (.tuple #[.slice ao (((headsOf id size k cs).take i).length) co, .I 0]) Try.func38 ?_
  have H : Hp w S [] [(b1, .cells #[.int .u64 id.version, .I x, .int .u64 id.epoch] 50 (0, 0))] [] [Rp (Shape.slice hdrS) [.slice ao (((headsOf id size k cs).take i).length) co] ((headsOf id size k cs).take i), Rp (Shape.slice SB) [.slice ac cs.length kc] cs] _ := H.freezeW 0 rfl
  rw [List.take_of_length_le (by rw [headsOf_len]; omega)] at H ⊢
  exact ⟨_, rfl, H.done, _, _, rfl, H.out (H.rp 0 rfl)⟩

theorem take_succ_mem {xs : List Int} {k : Nat} (hk : k < xs.length) {x : Int} : x ∈ xs.take (k + 1) ↔ x ∈ xs.take k ∨ x = xs[k] := by
 rw [List.take_succ_eq_append_getElem hk, List.mem_append, List.mem_singleton]

theorem index_spec {S : Nat → Prop} {w : World} {xs : List Int} {a : Option Addr} {c : Nat} (x : Int) (h : (Shape.slice (.int .i64)).rep S w [.slice a xs.length c] xs) :
 Calls Try.prog 91 #[.slice a xs.length c, .I x] w (Ret fun v w' => Ext w w' ∧ ∃ i : Int, v = .I i ∧ (0 ≤ i ↔ x ∈ xs)) := by
 have hlen := Shape.slice_len h
 refine qS (fn := Try.f91) (n := 19) (σ := [(0, .slice a xs.length c), (1, .I x)]) Try.func91 ?_
 have H := Hp.startF (w := w) (S := S) (G := [Rp (Shape.slice (Shape.int .i64)) [.slice a xs.length c] xs]) (.rp h .nil)
 refine qR 6 [.c [1, 0, 1, 0], .b 0, .c [2]] [(0, .slice a xs.length c), (1, .I x), (7, .I ((xs.length : Nat) : Int)), (8, .I 0)] ?_
 refine WK.loop (α := Nat) (b := cd Try.prog 91 [1, 0, 1, 0, 0]) (by as_aux_lemma => kernel_rfl) (fun k => [(0, .slice a xs.length c), (1, .I x), (7, .I ((xs.length : Nat) : Int)), (8, .I k)]) (fun k w' => Hp w S [] [] [] [Rp (Shape.slice (Shape.int .i64)) [.slice a xs.length c] xs] w' ∧ k ≤ xs.length ∧ x ∉ xs.take k) (fun k => xs.length - k) 0 ⟨H, by simp⟩ (rfl) ?_
 rintro k w2 ⟨H, hinv0⟩ hback1
 refine qR 3 [.c [1, 0, 1, 0, 0, 1, 0], .c [1, 0, 1, 0, 0, 2], .l [1, 0, 1, 0, 0], .b 0, .c [2]] [(0, .slice a xs.length c), (1, .I x), (7, .I ((xs.length : Nat) : Int)), (8, .I k), (9, .bool (decide (((k : Int) : Int) < ((xs.length : Nat) : Int))))] ?_
 refine qD (((k : Int) : Int) < ((xs.length : Nat) : Int)) (fun h3 => ?_) (fun h3 => ?_)
 ·
  refine qR 6 [.c [1, 0, 1, 0, 0, 2, 0, 0, 1, 0], .c [1, 0, 1, 0, 0, 2, 0, 0, 2], .b 1, .c [1, 0, 1, 0, 0, 3], .l [1, 0, 1, 0, 0], .b 0, .c [2]] [(0, .slice a xs.length c), (1, .I x), (5, .I k), (7, .I ((xs.length : Nat) : Int)), (8, .I k)] ?_
  refine qG (sq 0 6) ?_
  refine qP 3 (sq 3 6) [(0, .slice a xs.length c), (1, .I x), (5, .I k), (7, .I ((xs.length : Nat) : Int)), (8, .I k), (11, .I x), (12, .slice a xs.length c), (13, .I k)] ?_
  have hx4 : k < xs.length := by omega
  refine qX .seq 14 (sq 4 6) 25 3 (k : Int) (Shape.int .i64) (xs[k]) H 0 rfl k (by omega) (List.getElem?_eq_getElem hx4) ?_
  intro b5 o6 es7 hr8 H
  have hb9 := Shape.i64_bd hr8
  obtain ⟨rfl, -⟩ := hr8
  refine qL .seq 15 (sq 5 6) 3 b5 o6 0 (.I (xs[k])) (H.fc 0 rfl) ?_
  refine qF 1 [(0, .slice a xs.length c), (1, .I x), (5, .I k), (7, .I ((xs.length : Nat) : Int)), (8, .I k), (16, .bool (x == (xs[k])))] ?_
  refine qE x (xs[k]) (fun h10 => ?_) (fun h10 => ?_)
  ·
   refine qR 2 [.c [1, 0, 1, 0, 0, 2, 0, 0, 2, 0, 1], .b 1, .c [1, 0, 1, 0, 0, 3], .l [1, 0, 1, 0, 0], .b 0, .c [2]] [(4, .I k)] ?_
   refine qT (.I k) Try.func91 ?_
   exact ⟨_, rfl, H.done, _, rfl, fun _ => by subst_vars; exact List.getElem_mem _, fun _ => by omega⟩
  ·
   refine qR 2 [.c [1, 0, 1, 0, 0, 3], .l [1, 0, 1, 0, 0], .b 0, .c [2]] [(0, .slice a xs.length c), (1, .I x), (7, .I ((xs.length : Nat) : Int)), (8, .I k)] ?_
   refine qG (sq 0 2) ?_
   refine qI .seq 18 (sq 1 2) ((k : Int) + 1) ?_
   refine qF 1 [(0, .slice a xs.length c), (1, .I x), (7, .I ((xs.length : Nat) : Int)), (8, .I ((k : Int) + 1))] ?_
   have H := H.pick [1] rfl
   exact WK.back (hback1 (k + 1) _ ⟨H, by omega, fun hm => by rcases (take_succ_mem (by omega)).1 hm with hm | hm; exact hinv0.2 hm; exact absurd hm (by assumption)⟩ (by first | omega | (simp only []; omega))) (by as_aux_lemma => kernel_rfl)
 ·
  refine qR 3 [.c [3]] [(4, .I (-1))] ?_
  refine qT (.I (-1)) Try.func91 ?_
  exact ⟨_, rfl, H.done, _, rfl, fun h => absurd h (by omega), fun h => absurd (by rw [List.take_of_length_le (by omega)]; exact h) hinv0.2⟩

theorem contains_spec {S : Nat → Prop} {w : World} {xs : List Int} {a : Option Addr} {c : Nat} (x : Int) (h : (Shape.slice (.int .i64)).rep S w [.slice a xs.length c] xs) :
 Calls Try.prog 61 #[.slice a xs.length c, .I x] w (Ret fun v w' => Ext w w' ∧ v = .bool (decide (x ∈ xs))) := by
 refine qS (fn := Try.f61) (n := 9) (σ := [(0, .slice a xs.length c), (1, .I x)]) Try.func61 ?_
 have H := Hp.startF (w := w) (S := S) (G := [Rp (Shape.slice (Shape.int .i64)) [.slice a xs.length c] xs]) (.rp h .nil)
 refine qR 3 [.c [1, 0], .c [2]] [(0, .slice a xs.length c), (1, .I x)] ?_
 refine qG (sq 0 5) ?_
 refine qP 2 (sq 2 5) [(5, .slice a xs.length c), (6, .I x)] ?_
 refine qK .seq (some 7) (sq 3 5) 91 #[.slice a xs.length c, .I x] (index_spec x (H.rp 0 rfl)) ?_
 rintro _ w1 hE ⟨ix, rfl, hix⟩
 have H := H.ext hE
 refine qF 2 [(4, .bool (decide ((ix : Int) ≥ 0)))] ?_
 refine qT (.bool (decide ((ix : Int) ≥ 0))) Try.func61 ?_
 refine ⟨_, rfl, H.done, ?_⟩
 congr 1
 exact decide_eq_decide.2 hix

theorem clone_nil {S : Nat → Prop} {w : World} {xs : List Int} {c : Nat} (h : (Shape.slice (Shape.int .i64)).rep S w [.slice none xs.length c] xs) (hby : xs.length * 8 ≤ 140737488355328) :
 Calls Try.prog 56 #[.slice none xs.length c] w (Ret fun v w' => Ext w w' ∧ Hp w S [] [] [⟨Shape.int .i64, 3, v, xs⟩] [] w') := by
 have hx := Shape.slice_none h
 refine qS (fn := Try.f56) (n := 8) (σ := [(0, .slice none xs.length c)]) Try.func56 ?_
 have H := Hp.startF (w := w) (S := S) (G := [Rp (Shape.slice (Shape.int .i64)) [.slice none xs.length c] xs]) (.rp h .nil)
 refine qR 8 [.c [1, 0, 1, 0, 1], .c [2]] [(2, .slice none 0 0)] ?_
 refine qT (.slice none 0 0) Try.func56 ?_
 subst hx
 exact ⟨_, rfl, H.done, (H.pick [] rfl).ownNil (Shape.int .i64) 3⟩

theorem clone_some {S : Nat → Prop} {w : World} {xs : List Int} {a : Addr} {c : Nat} (h : (Shape.slice (Shape.int .i64)).rep S w [.slice (some a) xs.length c] xs) (hby : xs.length * 8 ≤ 140737488355328) :
 Calls Try.prog 56 #[.slice (some a) xs.length c] w (Ret fun v w' => Ext w w' ∧ Hp w S [] [] [⟨Shape.int .i64, 3, v, xs⟩] [] w') := by
 refine qS (fn := Try.f56) (n := 8) (σ := [(0, .slice (some a) xs.length c)]) Try.func56 ?_
 have H := Hp.startF (w := w) (S := S) (G := [Rp (Shape.slice (Shape.int .i64)) [.slice (some a) xs.length c] xs]) (.rp h .nil)
 refine qR 8 [.c [2, 0], .c [3]] [(0, .slice (some a) xs.length c)] ?_
 refine qG (sq 0 4) ?_
 refine RW.new (κ := .seq) (d := some 5) (r := (sq 1 4)) (o := .cells #[] 3 (0, 0)) (v := fun b => .slice (some ⟨b, 0, none⟩) 0 0) (fun b => by as_aux_lemma => kernel_rfl) (nofun) H ?_
 intro b1 w2 H
 refine qP 1 (sq 2 4) [(5, .slice (some ⟨b1, 0, none⟩) 0 0), (6, .slice (some a) xs.length c)] ?_
 have H := H.toOwn (sh := Shape.int .i64) (xs := []) (cap := 0) (by rfl) (Nat.le_refl _) (Nat.zero_le _) (by simp) EsP.nil
 have H : Hp w S [] [] [⟨Shape.int .i64, 3, .slice (some ⟨b1, 0, none⟩) 0 0, []⟩] [Rp (Shape.slice (Shape.int .i64)) [.slice (some a) xs.length c] xs] _ := H
 refine RW.appendW (d := some 7) (r := (sq 3 4)) (T := 25) (ty := 25) (e := 3) (m := 1) (by_ := 8) (v := .slice (some ⟨b1, 0, none⟩) 0 0) (a2 := (some a)) (l2 := xs.length) (c2 := c) (zs := xs) (by as_aux_lemma => kernel_rfl) (by as_aux_lemma => kernel_rfl) rfl H 0 rfl 0 rfl (rfl) (by omega) ?_
 intro a3 c4 w6 H hc5
 have H : Hp w S [] [] [⟨Shape.int .i64, 3, .slice a3 xs.length c4, xs⟩] [Rp (Shape.slice (Shape.int .i64)) [.slice (some a) xs.length c] xs] _ := H
 refine qF 1 [(2, .slice a3 xs.length c4)] ?_
 refine qT (.slice a3 xs.length c4) Try.func56 ?_
 exact ⟨_, rfl, H.done, H.pick [] rfl⟩

theorem clone_spec {S : Nat → Prop} {w : World} {xs : List Int} {a : Option Addr} {c : Nat} (h : (Shape.slice (Shape.int .i64)).rep S w [.slice a xs.length c] xs) (hby : xs.length * 8 ≤ 140737488355328) :
 Calls Try.prog 56 #[.slice a xs.length c] w (Ret fun v w' => Ext w w' ∧ Hp w S [] [] [⟨Shape.int .i64, 3, v, xs⟩] [] w') := by
 cases a with
 | none => exact clone_nil h hby
 | some a => exact clone_some h hby

theorem bclone_nil {S : Nat → Prop} {w : World} {xs : List (BitVec 8)} {c : Nat} (h : SB.rep S w [.slice none xs.length c] xs) (hby : xs.length * 1 ≤ 140737488355328) :
 Calls Try.prog 83 #[.slice none xs.length c] w (Ret fun v w' => Ext w w' ∧ Hp w S [] [] [⟨Sb, 5, v, xs⟩] [] w') := by
 have hx := Shape.slice_none h
 refine qS (fn := Try.f83) (n := 8) (σ := [(0, .slice none xs.length c)]) Try.func83 ?_
 have H := Hp.startF (w := w) (S := S) (G := [Rp SB [.slice none xs.length c] xs]) (.rp h .nil)
 refine qR 8 [.c [1, 0, 1, 0, 1], .c [2]] [(2, .slice none 0 0)] ?_
 refine qT (.slice none 0 0) Try.func83 ?_
 subst hx
 exact ⟨_, rfl, H.done, (H.pick [] rfl).ownNil Sb 5⟩

theorem bclone_some {S : Nat → Prop} {w : World} {xs : List (BitVec 8)} {a : Addr} {c : Nat} (h : SB.rep S w [.slice (some a) xs.length c] xs) (hby : xs.length * 1 ≤ 140737488355328) :
 Calls Try.prog 83 #[.slice (some a) xs.length c] w (Ret fun v w' => Ext w w' ∧ Hp w S [] [] [⟨Sb, 5, v, xs⟩] [] w') := by
 refine qS (fn := Try.f83) (n := 8) (σ := [(0, .slice (some a) xs.length c)]) Try.func83 ?_
 have H := Hp.startF (w := w) (S := S) (G := [Rp SB [.slice (some a) xs.length c] xs]) (.rp h .nil)
 refine qR 8 [.c [2, 0], .c [3]] [(0, .slice (some a) xs.length c)] ?_
 refine qG (sq 0 4) ?_
 refine RW.new (κ := .seq) (d := some 5) (r := (sq 1 4)) (o := .cells #[] 5 (0, 0)) (v := fun b => .slice (some ⟨b, 0, none⟩) 0 0) (fun b => by as_aux_lemma => kernel_rfl) (nofun) H ?_
 intro b1 w2 H
 refine qP 1 (sq 2 4) [(5, .slice (some ⟨b1, 0, none⟩) 0 0), (6, .slice (some a) xs.length c)] ?_
 have H := H.toOwn (sh := Sb) (xs := []) (cap := 0) (by rfl) (Nat.le_refl _) (Nat.zero_le _) (by simp) EsP.nil
 have H : Hp w S [] [] [⟨Sb, 5, .slice (some ⟨b1, 0, none⟩) 0 0, []⟩] [Rp SB [.slice (some a) xs.length c] xs] _ := H
 refine RW.appendW (d := some 7) (r := (sq 3 4)) (T := 23) (ty := 23) (e := 5) (m := 1) (by_ := 1) (v := .slice (some ⟨b1, 0, none⟩) 0 0) (a2 := (some a)) (l2 := xs.length) (c2 := c) (zs := xs) (by as_aux_lemma => kernel_rfl) (by as_aux_lemma => kernel_rfl) rfl H 0 rfl 0 rfl (rfl) (by omega) ?_
 intro a3 c4 w6 H hc5
 have H : Hp w S [] [] [⟨Sb, 5, .slice a3 xs.length c4, xs⟩] [Rp SB [.slice (some a) xs.length c] xs] _ := H
 refine qF 1 [(2, .slice a3 xs.length c4)] ?_
 refine qT (.slice a3 xs.length c4) Try.func83 ?_
 exact ⟨_, rfl, H.done, H.pick [] rfl⟩

theorem bclone_spec {S : Nat → Prop} {w : World} {xs : List (BitVec 8)} {a : Option Addr} {c : Nat} (h : SB.rep S w [.slice a xs.length c] xs) (hby : xs.length * 1 ≤ 140737488355328) :
 Calls Try.prog 83 #[.slice a xs.length c] w (Ret fun v w' => Ext w w' ∧ Hp w S [] [] [⟨Sb, 5, v, xs⟩] [] w') := by
 cases a with
 | none => exact bclone_nil h hby
 | some a => exact bclone_some h hby


end Go.Proofs.Ytppcdmbkgficiaa
