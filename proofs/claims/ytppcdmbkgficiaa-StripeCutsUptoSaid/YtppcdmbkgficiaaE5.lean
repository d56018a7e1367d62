import Derived.Test.YtppcdmbkgficiaaE4
namespace Go.Proofs.Ytppcdmbkgficiaa
open Go.BX

theorem r4heads_len {S : Nat → Prop} {w : World} {cs : List (List (BitVec 8))} {ac : Option Addr} {kc : Nat} {id : CID} {ids : List Value} (size k : Int) (h : (Shape.slice SB).rep S w [.slice ac cs.length kc] cs) (hid : cidS.rep S w ids id) (hb : ¬ (0 ≤ size ∧ size ≤ 65536 ∧ 1 ≤ k ∧ k ≤ 255)) :
 Calls Try.prog 39 #[.slice ac cs.length kc, .agg ids.toArray, .I size, .I k] w (Ret fun v w' => Ext w w' ∧ v = .tuple #[.slice none 0 0, .I 2]) := by
 obtain ⟨rfl, hb1, hb2, hb3⟩ := cid_open hid
 have hcl := Shape.slice_len h
 refine qS (fn := Try.f39) (n := 68) (σ := [(0, .slice ac cs.length kc), (1, .agg #[.int .u64 id.version, .I id.index, .int .u64 id.epoch]), (2, .I size), (3, .I k)]) Try.func39 ?_
 have H := Hp.startF (w := w) (S := S) (G := [Rp (Shape.slice SB) [.slice ac cs.length kc] cs]) (.rp h .nil)
 refine qR 1 [.c [0], .c [1]] [(0, .slice ac cs.length kc), (1, .agg #[.int .u64 id.version, .I id.index, .int .u64 id.epoch]), (2, .I size), (3, .I k)] ?_
 refine qG (sq 0 3) ?_
 refine qB .seq 5 (sq 1 3) #[.int .u64 id.version, .I id.index, .int .u64 id.epoch] 50 H ?_
 intro b1 w2 H
 refine qF 2 [(0, .slice ac cs.length kc), (2, .I size), (3, .I k), (5, .P b1 0)] ?_
 refine qR 3 [.c [2, 0], .c [3]] [(0, .slice ac cs.length kc), (2, .I size), (3, .I k), (5, .P b1 0), (10, .I ((cs.length : Nat) : Int))] ?_
 refine qG (sq 0 8) ?_
 refine qP 2 (sq 2 8) [(0, .slice ac cs.length kc), (2, .I size), (3, .I k), (5, .P b1 0), (10, .I ((cs.length : Nat) : Int)), (19, .I size), (20, .I k)] ?_
 refine qK .seq (some 21) (sq 3 8) 36 #[.I size, .I k] (r4len_bad (S := fun _ => True) size k hb) ?_
 rintro _ w3 hE4 rfl
 have H := H.ext hE4
 refine qF 5 [(0, .slice ac cs.length kc), (2, .I size), (3, .I k), (5, .P b1 0), (10, .I ((cs.length : Nat) : Int)), (11, .I 0), (12, .I 2)] ?_
 refine qR 2 [.c [3, 0, 0], .c [3, 0, 1], .c [4]] [(0, .slice ac cs.length kc), (2, .I size), (3, .I k), (5, .P b1 0), (10, .I ((cs.length : Nat) : Int)), (11, .I 0), (12, .I 2)] ?_
 refine qG (sq 0 15) ?_
 refine qP 3 (sq 3 15) [(0, .slice ac cs.length kc), (2, .I size), (3, .I k), (5, .P b1 0), (10, .I ((cs.length : Nat) : Int)), (11, .I 0), (12, .I 2), (26, .bool (decide ((((cs.length : Nat) : Int) : Int) < 1)))] ?_
 refine tD (fun b_ => [(0, .slice ac cs.length kc), (2, .I size), (3, .I k), (5, .P b1 0), (10, .I ((cs.length : Nat) : Int)), (11, .I 0), (12, .I 2), (26, .bool b_)]) ((((cs.length : Nat) : Int) : Int) < 1) (fun h5 => ?_) (fun h5 => ?_)
 ·
  refine qF 12 [(0, .slice ac cs.length kc), (2, .I size), (3, .I k), (5, .P b1 0), (10, .I ((cs.length : Nat) : Int)), (11, .I 0), (38, .bool true)] ?_
  refine qR 3 [.c [3, 0, 1, 0, 1], .c [4]] [(8, .slice none 0 0), (9, .I 2)] ?_
  refine qT (.tuple #[.slice none 0 0, .I 2]) Try.func39 ?_
  exact ⟨_, rfl, H.done, rfl⟩
 ·
  refine qP 4 (sq 7 15) [(0, .slice ac cs.length kc), (2, .I size), (3, .I k), (5, .P b1 0), (10, .I ((cs.length : Nat) : Int)), (11, .I 0), (12, .I 2), (30, .bool (decide ((((cs.length : Nat) : Int) : Int) > 255)))] ?_
  refine tD (fun b_ => [(0, .slice ac cs.length kc), (2, .I size), (3, .I k), (5, .P b1 0), (10, .I ((cs.length : Nat) : Int)), (11, .I 0), (12, .I 2), (30, .bool b_)]) ((((cs.length : Nat) : Int) : Int) > 255) (fun h6 => ?_) (fun h6 => ?_)
  ·
   refine qF 8 [(0, .slice ac cs.length kc), (2, .I size), (3, .I k), (5, .P b1 0), (10, .I ((cs.length : Nat) : Int)), (11, .I 0), (38, .bool true)] ?_
   refine qR 3 [.c [3, 0, 1, 0, 1], .c [4]] [(8, .slice none 0 0), (9, .I 2)] ?_
   refine qT (.tuple #[.slice none 0 0, .I 2]) Try.func39 ?_
   exact ⟨_, rfl, H.done, rfl⟩
  ·
   refine qF 8 [(0, .slice ac cs.length kc), (2, .I size), (3, .I k), (5, .P b1 0), (10, .I ((cs.length : Nat) : Int)), (11, .I 0), (38, .bool true)] ?_
   refine qR 3 [.c [3, 0, 1, 0, 1], .c [4]] [(8, .slice none 0 0), (9, .I 2)] ?_
   refine qT (.tuple #[.slice none 0 0, .I 2]) Try.func39 ?_
   exact ⟨_, rfl, H.done, rfl⟩

theorem r4heads_arg {S : Nat → Prop} {w : World} {cs : List (List (BitVec 8))} {ac : Option Addr} {kc : Nat} {id : CID} {ids : List Value} (size k : Nat) (h : (Shape.slice SB).rep S w [.slice ac cs.length kc] cs) (hid : cidS.rep S w ids id) (hs : size ≤ 65536) (hk : 1 ≤ k) (hk2 : k ≤ 255) (hb : ¬ (k ≤ cs.length ∧ cs.length ≤ 255)) :
 Calls Try.prog 39 #[.slice ac cs.length kc, .agg ids.toArray, .I size, .I k] w (Ret fun v w' => Ext w w' ∧ v = .tuple #[.slice none 0 0, .I 2]) := by
 obtain ⟨rfl, hb1, hb2, hb3⟩ := cid_open hid
 have hcl := Shape.slice_len h
 refine qS (fn := Try.f39) (n := 68) (σ := [(0, .slice ac cs.length kc), (1, .agg #[.int .u64 id.version, .I id.index, .int .u64 id.epoch]), (2, .I size), (3, .I k)]) Try.func39 ?_
 have H := Hp.startF (w := w) (S := S) (G := [Rp (Shape.slice SB) [.slice ac cs.length kc] cs]) (.rp h .nil)
 refine qR 1 [.c [0], .c [1]] [(0, .slice ac cs.length kc), (1, .agg #[.int .u64 id.version, .I id.index, .int .u64 id.epoch]), (2, .I size), (3, .I k)] ?_
 refine qG (sq 0 3) ?_
 refine qB .seq 5 (sq 1 3) #[.int .u64 id.version, .I id.index, .int .u64 id.epoch] 50 H ?_
 intro b1 w2 H
 refine qF 2 [(0, .slice ac cs.length kc), (2, .I size), (3, .I k), (5, .P b1 0)] ?_
 refine qR 3 [.c [2, 0], .c [3]] [(0, .slice ac cs.length kc), (2, .I size), (3, .I k), (5, .P b1 0), (10, .I ((cs.length : Nat) : Int))] ?_
 refine qG (sq 0 8) ?_
 refine qP 2 (sq 2 8) [(0, .slice ac cs.length kc), (2, .I size), (3, .I k), (5, .P b1 0), (10, .I ((cs.length : Nat) : Int)), (19, .I size), (20, .I k)] ?_
 refine qK .seq (some 21) (sq 3 8) 36 #[.I size, .I k] (r4len_ok (S := fun _ => True) size k hs hk hk2) ?_
 rintro _ w3 hE4 rfl
 have H := H.ext hE4
 refine qF 5 [(0, .slice ac cs.length kc), (2, .I size), (3, .I k), (5, .P b1 0), (10, .I ((cs.length : Nat) : Int)), (11, .I ((lenOf size k : Nat) : Int)), (12, .I 0)] ?_
 refine qR 2 [.c [3, 0, 0], .c [3, 0, 1], .c [4]] [(0, .slice ac cs.length kc), (2, .I size), (3, .I k), (5, .P b1 0), (10, .I ((cs.length : Nat) : Int)), (11, .I ((lenOf size k : Nat) : Int)), (12, .I 0)] ?_
 refine qG (sq 0 15) ?_
 refine qP 3 (sq 3 15) [(0, .slice ac cs.length kc), (2, .I size), (3, .I k), (5, .P b1 0), (10, .I ((cs.length : Nat) : Int)), (11, .I ((lenOf size k : Nat) : Int)), (12, .I 0), (26, .bool (decide ((((cs.length : Nat) : Int) : Int) < 1)))] ?_
 refine tD (fun b_ => [(0, .slice ac cs.length kc), (2, .I size), (3, .I k), (5, .P b1 0), (10, .I ((cs.length : Nat) : Int)), (11, .I ((lenOf size k : Nat) : Int)), (12, .I 0), (26, .bool b_)]) ((((cs.length : Nat) : Int) : Int) < 1) (fun h5 => ?_) (fun h5 => ?_)
 ·
  refine qF 12 [(0, .slice ac cs.length kc), (2, .I size), (3, .I k), (5, .P b1 0), (10, .I ((cs.length : Nat) : Int)), (11, .I ((lenOf size k : Nat) : Int)), (38, .bool true)] ?_
  refine qR 3 [.c [3, 0, 1, 0, 1], .c [4]] [(8, .slice none 0 0), (9, .I 2)] ?_
  refine qT (.tuple #[.slice none 0 0, .I 2]) Try.func39 ?_
  exact ⟨_, rfl, H.done, rfl⟩
 ·
  refine qP 4 (sq 7 15) [(0, .slice ac cs.length kc), (2, .I size), (3, .I k), (5, .P b1 0), (10, .I ((cs.length : Nat) : Int)), (11, .I ((lenOf size k : Nat) : Int)), (12, .I 0), (30, .bool (decide ((((cs.length : Nat) : Int) : Int) > 255)))] ?_
  refine tD (fun b_ => [(0, .slice ac cs.length kc), (2, .I size), (3, .I k), (5, .P b1 0), (10, .I ((cs.length : Nat) : Int)), (11, .I ((lenOf size k : Nat) : Int)), (12, .I 0), (30, .bool b_)]) ((((cs.length : Nat) : Int) : Int) > 255) (fun h6 => ?_) (fun h6 => ?_)
  ·
   refine qF 8 [(0, .slice ac cs.length kc), (2, .I size), (3, .I k), (5, .P b1 0), (10, .I ((cs.length : Nat) : Int)), (11, .I ((lenOf size k : Nat) : Int)), (38, .bool true)] ?_
   refine qR 3 [.c [3, 0, 1, 0, 1], .c [4]] [(8, .slice none 0 0), (9, .I 2)] ?_
   refine qT (.tuple #[.slice none 0 0, .I 2]) Try.func39 ?_
   exact ⟨_, rfl, H.done, rfl⟩
  ·
   refine qF 8 [(0, .slice ac cs.length kc), (2, .I size), (3, .I k), (5, .P b1 0), (10, .I ((cs.length : Nat) : Int)), (11, .I ((lenOf size k : Nat) : Int)), (38, .bool (decide (((k : Int) : Int) > ((cs.length : Nat) : Int))))] ?_
   refine qD (((k : Int) : Int) > ((cs.length : Nat) : Int)) (fun h7 => ?_) (fun h7 => ?_)
   ·
    refine qR 2 [.c [3, 0, 1, 0, 1], .c [4]] [(8, .slice none 0 0), (9, .I 2)] ?_
    refine qT (.tuple #[.slice none 0 0, .I 2]) Try.func39 ?_
    exact ⟨_, rfl, H.done, rfl⟩
   ·
    exact absurd (by omega) hb

theorem r4heads_piece {S : Nat → Prop} {w : World} {cs : List (List (BitVec 8))} {ac : Option Addr} {kc : Nat} {id : CID} {ids : List Value} (size k : Nat) (h : (Shape.slice SB).rep S w [.slice ac cs.length kc] cs) (hid : cidS.rep S w ids id) {m : Nat} (hs : size ≤ 65536) (hk : 1 ≤ k) (hkn : k ≤ cs.length) (hn : cs.length ≤ 255) (hm : ∀ c ∈ cs, c.length = m) (hne : m ≠ lenOf size k) :
 Calls Try.prog 39 #[.slice ac cs.length kc, .agg ids.toArray, .I size, .I k] w (Ret fun v w' => Ext w w' ∧ v = .tuple #[.slice none 0 0, .I 31]) := by
 obtain ⟨rfl, hb1, hb2, hb3⟩ := cid_open hid
 have hcl := Shape.slice_len h
 have hk2 : k ≤ 255 := by omega
 refine qS (fn := Try.f39) (n := 68) (σ := [(0, .slice ac cs.length kc), (1, .agg #[.int .u64 id.version, .I id.index, .int .u64 id.epoch]), (2, .I size), (3, .I k)]) Try.func39 ?_
 have H := Hp.startF (w := w) (S := S) (G := [Rp (Shape.slice SB) [.slice ac cs.length kc] cs]) (.rp h .nil)
 refine qR 1 [.c [0], .c [1]] [(0, .slice ac cs.length kc), (1, .agg #[.int .u64 id.version, .I id.index, .int .u64 id.epoch]), (2, .I size), (3, .I k)] ?_
 refine qG (sq 0 3) ?_
 refine qB .seq 5 (sq 1 3) #[.int .u64 id.version, .I id.index, .int .u64 id.epoch] 50 H ?_
 intro b1 w2 H
 refine qF 2 [(0, .slice ac cs.length kc), (2, .I size), (3, .I k), (5, .P b1 0)] ?_
 refine qR 3 [.c [2, 0], .c [3]] [(0, .slice ac cs.length kc), (2, .I size), (3, .I k), (5, .P b1 0), (10, .I ((cs.length : Nat) : Int))] ?_
 refine qG (sq 0 8) ?_
 refine qP 2 (sq 2 8) [(0, .slice ac cs.length kc), (2, .I size), (3, .I k), (5, .P b1 0), (10, .I ((cs.length : Nat) : Int)), (19, .I size), (20, .I k)] ?_
 refine qK .seq (some 21) (sq 3 8) 36 #[.I size, .I k] (r4len_ok (S := fun _ => True) size k hs hk hk2) ?_
 rintro _ w3 hE4 rfl
 have H := H.ext hE4
 refine qF 5 [(0, .slice ac cs.length kc), (2, .I size), (3, .I k), (5, .P b1 0), (10, .I ((cs.length : Nat) : Int)), (11, .I ((lenOf size k : Nat) : Int)), (12, .I 0)] ?_
 refine qR 2 [.c [3, 0, 0], .c [3, 0, 1], .c [4]] [(0, .slice ac cs.length kc), (2, .I size), (3, .I k), (5, .P b1 0), (10, .I ((cs.length : Nat) : Int)), (11, .I ((lenOf size k : Nat) : Int)), (12, .I 0)] ?_
 refine qG (sq 0 15) ?_
 refine qP 3 (sq 3 15) [(0, .slice ac cs.length kc), (2, .I size), (3, .I k), (5, .P b1 0), (10, .I ((cs.length : Nat) : Int)), (11, .I ((lenOf size k : Nat) : Int)), (12, .I 0), (26, .bool (decide ((((cs.length : Nat) : Int) : Int) < 1)))] ?_
 refine tD (fun b_ => [(0, .slice ac cs.length kc), (2, .I size), (3, .I k), (5, .P b1 0), (10, .I ((cs.length : Nat) : Int)), (11, .I ((lenOf size k : Nat) : Int)), (12, .I 0), (26, .bool b_)]) ((((cs.length : Nat) : Int) : Int) < 1) (fun h5 => ?_) (fun h5 => ?_)
 ·
  omega
 ·
  refine qP 4 (sq 7 15) [(0, .slice ac cs.length kc), (2, .I size), (3, .I k), (5, .P b1 0), (10, .I ((cs.length : Nat) : Int)), (11, .I ((lenOf size k : Nat) : Int)), (12, .I 0), (30, .bool (decide ((((cs.length : Nat) : Int) : Int) > 255)))] ?_
  refine tD (fun b_ => [(0, .slice ac cs.length kc), (2, .I size), (3, .I k), (5, .P b1 0), (10, .I ((cs.length : Nat) : Int)), (11, .I ((lenOf size k : Nat) : Int)), (12, .I 0), (30, .bool b_)]) ((((cs.length : Nat) : Int) : Int) > 255) (fun h6 => ?_) (fun h6 => ?_)
  ·
   omega
  ·
   refine qF 8 [(0, .slice ac cs.length kc), (2, .I size), (3, .I k), (5, .P b1 0), (10, .I ((cs.length : Nat) : Int)), (11, .I ((lenOf size k : Nat) : Int)), (38, .bool (decide (((k : Int) : Int) > ((cs.length : Nat) : Int))))] ?_
   refine qD (((k : Int) : Int) > ((cs.length : Nat) : Int)) (fun h7 => ?_) (fun h7 => ?_)
   ·
    omega
   ·
    refine qR 7 [.c [5, 0, 1, 0], .b 0, .c [6]] [(0, .slice ac cs.length kc), (2, .I size), (3, .I k), (5, .P b1 0), (10, .I ((cs.length : Nat) : Int)), (11, .I ((lenOf size k : Nat) : Int)), (13, .slice none 0 0), (14, .I 0)] ?_
    refine WK.loop (α := Unit) (b := cd Try.prog 39 [5, 0, 1, 0, 0]) (by as_aux_lemma => kernel_rfl) (fun _ => [(0, .slice ac cs.length kc), (2, .I size), (3, .I k), (5, .P b1 0), (10, .I ((cs.length : Nat) : Int)), (11, .I ((lenOf size k : Nat) : Int)), (13, .slice none 0 0), (14, .I 0)]) (fun _ w' => Hp w S [] [(b1, .cells #[.int .u64 id.version, .I id.index, .int .u64 id.epoch] 50 (0, 0))] [] [Rp (Shape.slice SB) [.slice ac cs.length kc] cs] w' ∧ True) (fun _ => 0) (()) ⟨H, trivial⟩ (rfl) ?_
    rintro _ w9 ⟨H, hinv0⟩ hback8
    refine qR 3 [.c [5, 0, 1, 0, 0, 0, 1], .c [5, 0, 1, 0, 0, 1], .l [5, 0, 1, 0, 0], .b 0, .c [6]] [(0, .slice ac cs.length kc), (2, .I size), (3, .I k), (5, .P b1 0), (10, .I ((cs.length : Nat) : Int)), (11, .I ((lenOf size k : Nat) : Int)), (13, .slice none 0 0), (14, .I 0), (41, .bool (decide ((0 : Int) < ((cs.length : Nat) : Int))))] ?_
    refine qD ((0 : Int) < ((cs.length : Nat) : Int)) (fun h10 => ?_) (fun h10 => ?_)
    ·
     refine qR 5 [.c [5, 0, 1, 0, 0, 1, 0, 0, 0, 0], .c [5, 0, 1, 0, 0, 1, 0, 0, 0, 1], .c [5, 0, 1, 0, 0, 1, 0, 0, 1], .b 1, .c [5, 0, 1, 0, 0, 2], .l [5, 0, 1, 0, 0], .b 0, .c [6]] [(0, .slice ac cs.length kc), (2, .I size), (3, .I k), (5, .P b1 0), (10, .I ((cs.length : Nat) : Int)), (11, .I ((lenOf size k : Nat) : Int)), (13, .slice none 0 0), (14, .I 0)] ?_
     refine qG (sq 0 7) ?_
     refine qP 2 (sq 2 7) [(0, .slice ac cs.length kc), (2, .I size), (3, .I k), (5, .P b1 0), (10, .I ((cs.length : Nat) : Int)), (11, .I ((lenOf size k : Nat) : Int)), (13, .slice none 0 0), (14, .I 0), (44, .slice ac cs.length kc), (45, .I 0)] ?_
     have hx11 : 0 < cs.length := by omega
     refine qX .seq 46 (sq 3 7) 29 23 0 SB (cs[0]) H 0 rfl 0 (by omega) (List.getElem?_eq_getElem hx11) ?_
     intro b12 o13 es14 hr15 H
     obtain ⟨a16, k17, rfl⟩ := Shape.slice_form' hr15
     have H := H.add (F := Rp SB [.slice a16 (cs[0]).length k17] (cs[0])) hr15
     refine qL .seq 47 (sq 4 7) 23 b12 o13 0 (.slice a16 (cs[0]).length k17) (H.fc 1 rfl) ?_
     refine qF 3 [(0, .slice ac cs.length kc), (2, .I size), (3, .I k), (5, .P b1 0), (10, .I ((cs.length : Nat) : Int)), (11, .I ((lenOf size k : Nat) : Int)), (13, .slice none 0 0), (14, .I 0), (50, .bool ((((cs[0]).length : Nat) : Int) != ((lenOf size k : Nat) : Int)))] ?_
     refine qN (((cs[0]).length : Nat) : Int) ((lenOf size k : Nat) : Int) (fun h18 => ?_) (fun h18 => ?_)
     ·
      refine qR 2 [.c [5, 0, 1, 0, 0, 1, 0, 0, 0, 1, 0, 1], .c [5, 0, 1, 0, 0, 1, 0, 0, 1], .b 1, .c [5, 0, 1, 0, 0, 2], .l [5, 0, 1, 0, 0], .b 0, .c [6]] [(8, .slice none 0 0), (9, .I 31)] ?_
      refine qT (.tuple #[.slice none 0 0, .I 31]) Try.func39 ?_
      exact ⟨_, rfl, H.done, rfl⟩
     ·
      have hq9 := hm (cs[0]) (List.getElem_mem (by omega))
      omega
    ·
     omega

theorem heads_arg {S : Nat → Prop} {w : World} {cs : List (List (BitVec 8))} {ac : Option Addr} {kc : Nat} {id : CID} {ids : List Value} (size k : Int) (h : (Shape.slice SB).rep S w [.slice ac cs.length kc] cs) (hid : cidS.rep S w ids id) (hb : ¬ (0 ≤ size ∧ size ≤ 65536 ∧ 1 ≤ k ∧ k ≤ (cs.length : Int) ∧ (cs.length : Int) ≤ 255)) :
 Calls Try.prog 38 #[.slice ac cs.length kc, .agg ids.toArray, .I size, .I k] w (Ret fun v w' => Ext w w' ∧ v = .tuple #[.slice none 0 0, .I 2]) := by
 obtain ⟨rfl, hb1, hb2, hb3⟩ := cid_open hid
 have hcl := Shape.slice_len h
 refine qS (fn := Try.f38) (n := 52) (σ := [(0, .slice ac cs.length kc), (1, .agg #[.int .u64 id.version, .I id.index, .int .u64 id.epoch]), (2, .I size), (3, .I k)]) Try.func38 ?_
 have H := Hp.startF (w := w) (S := S) (G := [Rp (Shape.slice SB) [.slice ac cs.length kc] cs]) (.rp h .nil)
 refine qR 1 [.c [0], .c [1]] [(0, .slice ac cs.length kc), (1, .agg #[.int .u64 id.version, .I id.index, .int .u64 id.epoch]), (2, .I size), (3, .I k)] ?_
 refine qG (sq 0 3) ?_
 refine qB .seq 5 (sq 1 3) #[.int .u64 id.version, .I id.index, .int .u64 id.epoch] 50 H ?_
 intro b1 w2 H
 refine qF 2 [(0, .slice ac cs.length kc), (2, .I size), (3, .I k), (5, .P b1 0)] ?_
 refine qR 1 [.c [1, 0], .c [2]] [(0, .slice ac cs.length kc), (2, .I size), (3, .I k), (5, .P b1 0)] ?_
 refine qG (sq 0 10) ?_
 refine qP 4 (sq 4 10) [(0, .slice ac cs.length kc), (2, .I size), (3, .I k), (5, .P b1 0), (16, .I size), (17, .I k), (19, .I ((cs.length : Nat) : Int))] ?_
 refine qK .seq (some 20) (sq 5 10) 66 #[.I size, .I k, .I ((cs.length : Nat) : Int)] (sizes_bad (S := fun _ => True) size k ((cs.length : Nat) : Int) (by omega)) ?_
 rintro _ w3 hE4 rfl
 have H := H.ext hE4
 refine qF 5 [(0, .slice ac cs.length kc), (2, .I size), (3, .I k), (5, .P b1 0), (10, .I 0), (11, .I 2)] ?_
 refine qR 6 [.c [2, 0, 1, 0, 1], .c [3]] [(8, .slice none 0 0), (9, .I 2)] ?_
 refine qT (.tuple #[.slice none 0 0, .I 2]) Try.func38 ?_
 exact ⟨_, rfl, H.done, rfl⟩

theorem heads_piece {S : Nat → Prop} {w : World} {cs : List (List (BitVec 8))} {ac : Option Addr} {kc : Nat} {id : CID} {ids : List Value} (size k : Nat) (h : (Shape.slice SB).rep S w [.slice ac cs.length kc] cs) (hid : cidS.rep S w ids id) {m : Nat} (hs : size ≤ 65536) (hk : 1 ≤ k) (hkn : k ≤ cs.length) (hn : cs.length ≤ 255) (hm : ∀ c ∈ cs, c.length = m) (hne : m ≠ lenOf size k) :
 Calls Try.prog 38 #[.slice ac cs.length kc, .agg ids.toArray, .I size, .I k] w (Ret fun v w' => Ext w w' ∧ v = .tuple #[.slice none 0 0, .I 31]) := by
 obtain ⟨rfl, hb1, hb2, hb3⟩ := cid_open hid
 have hcl := Shape.slice_len h
 have hk2 : k ≤ 255 := by omega
 refine qS (fn := Try.f38) (n := 52) (σ := [(0, .slice ac cs.length kc), (1, .agg #[.int .u64 id.version, .I id.index, .int .u64 id.epoch]), (2, .I size), (3, .I k)]) Try.func38 ?_
 have H := Hp.startF (w := w) (S := S) (G := [Rp (Shape.slice SB) [.slice ac cs.length kc] cs]) (.rp h .nil)
 refine qR 1 [.c [0], .c [1]] [(0, .slice ac cs.length kc), (1, .agg #[.int .u64 id.version, .I id.index, .int .u64 id.epoch]), (2, .I size), (3, .I k)] ?_
 refine qG (sq 0 3) ?_
 refine qB .seq 5 (sq 1 3) #[.int .u64 id.version, .I id.index, .int .u64 id.epoch] 50 H ?_
 intro b1 w2 H
 refine qF 2 [(0, .slice ac cs.length kc), (2, .I size), (3, .I k), (5, .P b1 0)] ?_
 refine qR 1 [.c [1, 0], .c [2]] [(0, .slice ac cs.length kc), (2, .I size), (3, .I k), (5, .P b1 0)] ?_
 refine qG (sq 0 10) ?_
 refine qP 4 (sq 4 10) [(0, .slice ac cs.length kc), (2, .I size), (3, .I k), (5, .P b1 0), (16, .I size), (17, .I k), (19, .I ((cs.length : Nat) : Int))] ?_
 refine qK .seq (some 20) (sq 5 10) 66 #[.I size, .I k, .I ((cs.length : Nat) : Int)] (sizes_ok (S := fun _ => True) size k cs.length (by omega) (by omega) (by omega) (by omega)) ?_
 rintro _ w3 hE4 rfl
 have H := H.ext hE4
 refine qF 5 [(0, .slice ac cs.length kc), (2, .I size), (3, .I k), (5, .P b1 0), (10, .I ((lenOf size k : Nat) : Int)), (11, .I 0)] ?_
 refine qR 11 [.c [4, 0, 1, 0], .b 0, .c [5]] [(0, .slice ac cs.length kc), (2, .I size), (3, .I k), (5, .P b1 0), (10, .I ((lenOf size k : Nat) : Int)), (12, .slice none 0 0), (26, .slice ac cs.length kc), (27, .I ((cs.length : Nat) : Int)), (28, .I 0)] ?_
 refine WK.loop (α := Unit) (b := cd Try.prog 38 [4, 0, 1, 0, 0]) (by as_aux_lemma => kernel_rfl) (fun _ => [(0, .slice ac cs.length kc), (2, .I size), (3, .I k), (5, .P b1 0), (10, .I ((lenOf size k : Nat) : Int)), (12, .slice none 0 0), (26, .slice ac cs.length kc), (27, .I ((cs.length : Nat) : Int)), (28, .I 0)]) (fun _ w' => Hp w S [] [(b1, .cells #[.int .u64 id.version, .I id.index, .int .u64 id.epoch] 50 (0, 0))] [] [Rp (Shape.slice SB) [.slice ac cs.length kc] cs] w' ∧ True) (fun _ => 0) (()) ⟨H, trivial⟩ (rfl) ?_
 rintro _ w6 ⟨H, hinv0⟩ hback5
 refine qR 3 [.c [4, 0, 1, 0, 0, 1, 0], .c [4, 0, 1, 0, 0, 2], .l [4, 0, 1, 0, 0], .b 0, .c [5]] [(0, .slice ac cs.length kc), (2, .I size), (3, .I k), (5, .P b1 0), (10, .I ((lenOf size k : Nat) : Int)), (12, .slice none 0 0), (26, .slice ac cs.length kc), (27, .I ((cs.length : Nat) : Int)), (28, .I 0), (29, .bool (decide ((0 : Int) < ((cs.length : Nat) : Int))))] ?_
 refine qD ((0 : Int) < ((cs.length : Nat) : Int)) (fun h7 => ?_) (fun h7 => ?_)
 ·
  refine qR 4 [.c [4, 0, 1, 0, 0, 2, 0, 0, 0], .c [4, 0, 1, 0, 0, 2, 0, 0, 1], .b 1, .c [4, 0, 1, 0, 0, 3], .l [4, 0, 1, 0, 0], .b 0, .c [5]] [(0, .slice ac cs.length kc), (2, .I size), (3, .I k), (5, .P b1 0), (10, .I ((lenOf size k : Nat) : Int)), (12, .slice none 0 0), (26, .slice ac cs.length kc), (27, .I ((cs.length : Nat) : Int)), (28, .I 0)] ?_
  refine qG (sq 0 5) ?_
  refine qP 1 (sq 1 5) [(0, .slice ac cs.length kc), (2, .I size), (3, .I k), (5, .P b1 0), (10, .I ((lenOf size k : Nat) : Int)), (12, .slice none 0 0), (26, .slice ac cs.length kc), (27, .I ((cs.length : Nat) : Int)), (28, .I 0), (30, .I 0)] ?_
  have hx8 : 0 < cs.length := by omega
  refine qX .seq 31 (sq 2 5) 29 23 0 SB (cs[0]) H 0 rfl 0 (by omega) (List.getElem?_eq_getElem hx8) ?_
  intro b9 o10 es11 hr12 H
  obtain ⟨a13, k14, rfl⟩ := Shape.slice_form' hr12
  have H := H.add (F := Rp SB [.slice a13 (cs[0]).length k14] (cs[0])) hr12
  refine qL .seq 32 (sq 3 5) 23 b9 o10 0 (.slice a13 (cs[0]).length k14) (H.fc 1 rfl) ?_
  refine qF 2 [(0, .slice ac cs.length kc), (2, .I size), (3, .I k), (5, .P b1 0), (10, .I ((lenOf size k : Nat) : Int)), (12, .slice none 0 0), (13, .I 0), (14, .slice a13 (cs[0]).length k14), (26, .slice ac cs.length kc), (27, .I ((cs.length : Nat) : Int)), (28, .I 0)] ?_
  refine qR 3 [.c [4, 0, 1, 0, 0, 2, 0, 0, 1, 0, 1], .c [4, 0, 1, 0, 0, 2, 0, 0, 2], .b 1, .c [4, 0, 1, 0, 0, 3], .l [4, 0, 1, 0, 0], .b 0, .c [5]] [(0, .slice ac cs.length kc), (2, .I size), (3, .I k), (5, .P b1 0), (10, .I ((lenOf size k : Nat) : Int)), (12, .slice none 0 0), (13, .I 0), (14, .slice a13 (cs[0]).length k14), (26, .slice ac cs.length kc), (27, .I ((cs.length : Nat) : Int)), (28, .I 0), (36, .bool ((((cs[0]).length : Nat) : Int) != ((lenOf size k : Nat) : Int)))] ?_
  refine qN (((cs[0]).length : Nat) : Int) ((lenOf size k : Nat) : Int) (fun h15 => ?_) (fun h15 => ?_)
  ·
   refine qR 2 [.c [4, 0, 1, 0, 0, 2, 0, 0, 1, 0, 1, 0, 1], .c [4, 0, 1, 0, 0, 2, 0, 0, 2], .b 1, .c [4, 0, 1, 0, 0, 3], .l [4, 0, 1, 0, 0], .b 0, .c [5]] [(8, .slice none 0 0), (9, .I 31)] ?_
   refine qT (.tuple #[.slice none 0 0, .I 31]) Try.func38 ?_
   exact ⟨_, rfl, H.done, rfl⟩
  ·
   have hq9 := hm (cs[0]) (List.getElem_mem (by omega))
   omega
 ·
  omega

theorem r4enc_len {S : Nat → Prop} {w : World} {xs : List (BitVec 8)} {a : Option Addr} {c : Nat} (k n : Int) (h : SB.rep S w [.slice a xs.length c] xs) (hb : ¬ (0 ≤ (xs.length : Int) ∧ (xs.length : Int) ≤ 65536 ∧ 1 ≤ k ∧ k ≤ 255)) :
 Calls Try.prog 34 #[.slice a xs.length c, .I k, .I n] w (Ret fun v w' => Ext w w' ∧ v = .tuple #[.slice none 0 0, .I 2]) := by
 refine qS (fn := Try.f34) (n := 105) (σ := [(0, .slice a xs.length c), (1, .I k), (2, .I n)]) Try.func34 ?_
 have H := Hp.startF (w := w) (S := S) (G := [Rp SB [.slice a xs.length c] xs]) (.rp h .nil)
 refine qR 3 [.c [1, 0], .c [2]] [(0, .slice a xs.length c), (1, .I k), (2, .I n)] ?_
 refine qG (sq 0 9) ?_
 refine qP 3 (sq 3 9) [(0, .slice a xs.length c), (1, .I k), (2, .I n), (19, .I ((xs.length : Nat) : Int)), (20, .I k)] ?_
 refine qK .seq (some 21) (sq 4 9) 36 #[.I ((xs.length : Nat) : Int), .I k] (r4len_bad (S := fun _ => True) (xs.length : Int) k hb) ?_
 rintro _ w1 hE2 rfl
 have H := H.ext hE2
 refine qF 5 [(0, .slice a xs.length c), (1, .I k), (2, .I n), (8, .I 0), (9, .I 2)] ?_
 refine qR 6 [.c [2, 0, 1, 0, 1], .c [3]] [(6, .slice none 0 0), (7, .I 2)] ?_
 refine qT (.tuple #[.slice none 0 0, .I 2]) Try.func34 ?_
 exact ⟨_, rfl, H.done, rfl⟩

theorem r4enc_n {S : Nat → Prop} {w : World} {xs : List (BitVec 8)} {a : Option Addr} {c : Nat} (k : Nat) (n : Int) (h : SB.rep S w [.slice a xs.length c] xs) (hs : xs.length ≤ 65536) (hk : 1 ≤ k) (hk2 : k ≤ 255) (hb : ¬ ((k : Int) ≤ n ∧ n ≤ 255)) :
 Calls Try.prog 34 #[.slice a xs.length c, .I k, .I n] w (Ret fun v w' => Ext w w' ∧ v = .tuple #[.slice none 0 0, .I 2]) := by
 refine qS (fn := Try.f34) (n := 105) (σ := [(0, .slice a xs.length c), (1, .I k), (2, .I n)]) Try.func34 ?_
 have H := Hp.startF (w := w) (S := S) (G := [Rp SB [.slice a xs.length c] xs]) (.rp h .nil)
 refine qR 3 [.c [1, 0], .c [2]] [(0, .slice a xs.length c), (1, .I k), (2, .I n)] ?_
 refine qG (sq 0 9) ?_
 refine qP 3 (sq 3 9) [(0, .slice a xs.length c), (1, .I k), (2, .I n), (19, .I ((xs.length : Nat) : Int)), (20, .I k)] ?_
 refine qK .seq (some 21) (sq 4 9) 36 #[.I ((xs.length : Nat) : Int), .I k] (r4len_ok (S := fun _ => True) xs.length k hs hk hk2) ?_
 rintro _ w1 hE2 rfl
 have H := H.ext hE2
 refine qF 5 [(0, .slice a xs.length c), (1, .I k), (2, .I n), (8, .I ((lenOf xs.length k : Nat) : Int)), (9, .I 0)] ?_
 refine qR 2 [.c [2, 0, 0], .c [2, 0, 1], .c [3]] [(0, .slice a xs.length c), (1, .I k), (2, .I n), (8, .I ((lenOf xs.length k : Nat) : Int)), (9, .I 0)] ?_
 refine qG (sq 0 11) ?_
 refine qP 8 (sq 8 11) [(0, .slice a xs.length c), (1, .I k), (2, .I n), (8, .I ((lenOf xs.length k : Nat) : Int)), (31, .bool (decide ((n : Int) < (k : Int))))] ?_
 refine tD (fun b_ => [(0, .slice a xs.length c), (1, .I k), (2, .I n), (8, .I ((lenOf xs.length k : Nat) : Int)), (31, .bool b_)]) ((n : Int) < (k : Int)) (fun h3 => ?_) (fun h3 => ?_)
 ·
  refine qF 3 [(0, .slice a xs.length c), (1, .I k), (2, .I n), (8, .I ((lenOf xs.length k : Nat) : Int)), (34, .bool true)] ?_
  refine qR 3 [.c [2, 0, 1, 0, 1], .c [3]] [(6, .slice none 0 0), (7, .I 2)] ?_
  refine qT (.tuple #[.slice none 0 0, .I 2]) Try.func34 ?_
  exact ⟨_, rfl, H.done, rfl⟩
 ·
  refine qF 3 [(0, .slice a xs.length c), (1, .I k), (2, .I n), (8, .I ((lenOf xs.length k : Nat) : Int)), (34, .bool (decide ((n : Int) > 255)))] ?_
  refine qD ((n : Int) > 255) (fun h4 => ?_) (fun h4 => ?_)
  ·
   refine qR 2 [.c [2, 0, 1, 0, 1], .c [3]] [(6, .slice none 0 0), (7, .I 2)] ?_
   refine qT (.tuple #[.slice none 0 0, .I 2]) Try.func34 ?_
   exact ⟨_, rfl, H.done, rfl⟩
  ·
   exact absurd (by omega) hb


end Go.Proofs.Ytppcdmbkgficiaa
