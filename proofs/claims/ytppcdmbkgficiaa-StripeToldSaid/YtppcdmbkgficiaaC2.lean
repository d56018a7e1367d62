import Derived.Test.YtppcdmbkgficiaaC1
import Derived.Test.YtppcdmbkgficiaaP7
namespace Go.Proofs.Ytppcdmbkgficiaa
open Go.BX

def hd1 (xs : List (BitVec 8)) (k n i : Nat) : Hdr := ⟨⟨1, (i : Int), 0⟩, (k : Int), (n : Int), (xs.length : Int), crcF (rowAt (enc xs k n) i)⟩
theorem heads1_at {xs : List (BitVec 8)} {k n i : Nat} (hkn : k ≤ n) (h : i < n) (h2 : i < (headsOf ⟨1, 0, 0⟩ xs.length k (enc xs k n)).length) : (headsOf ⟨1, 0, 0⟩ xs.length k (enc xs k n))[i] = hd1 xs k n i := by
 have h1 := headsOf_get (id := ⟨1, 0, 0⟩) (size := xs.length) (k := k) (cs := enc xs k n) (i := i) (by rw [enc_len hkn]; exact h)
 rw [List.getElem?_eq_getElem h2] at h1
 rw [Option.some.inj h1]
 unfold hd1
 rw [rowAt_eq (by rw [enc_len hkn]; exact h)]
 simp only [enc_len hkn]
theorem lenOf_one {size k : Nat} (hs : 1 ≤ size) (hk : 1 ≤ k) : 1 ≤ lenOf size k := Nat.div_pos (by omega) hk
theorem told_good {xs : List (BitVec 8)} {k n i : Nat} (hk : 1 ≤ k) (hkn : k ≤ n) (hn : n ≤ 255) (hs : xs.length ≤ 65536) (hi : i < n) : wholeE (hd1 xs k n i) (rowAt (enc xs k n) i) = 0 := by
 rw [whole_own hk hkn hn hs hi (row_len hkn hi) rfl rfl rfl rfl]
 exact if_pos rfl
theorem told_bad {xs : List (BitVec 8)} {k n i q m : Nat} {mk : BitVec 32} (hk : 1 ≤ k) (hkn : k ≤ n) (hn : n ≤ 255) (hs : xs.length ≤ 65536) (hi : i < n) (hm : m ≤ 32) (hq : q + m ≤ 8 * (rowAt (enc xs k n) i).length) :
 (wholeE (hd1 xs k n i) (turned (rowAt (enc xs k n) i) q mk m) == 92) = anyB mk m := by
 rw [whole_own hk hkn hn hs hi (by rw [turned_len]; exact row_len hkn hi) rfl rfl rfl rfl]
 show ((if crcF (turned (rowAt (enc xs k n) i) q mk m) = crcF (rowAt (enc xs k n) i) then (0 : Int) else 92) == 92) = _
 cases ha : anyB mk m
 · rw [turned_same m (anyB_false.1 ha), if_pos rfl]; rfl
 · rw [if_neg]
   · rfl
   · intro hc
     rw [anyB_false.2 (turned_tells hm hq hc.symm)] at ha
     cases ha

theorem told_no {S : Nat → Prop} {w : World} {xs : List (BitVec 8)} {a : Option Addr} {c : Nat} (h : SB.rep S w [.slice a xs.length c] xs) (k n wi bi : Int) (mk : BitVec 32) (hb : ¬ (1 ≤ k ∧ k ≤ n ∧ n ≤ 20 ∧ 1 ≤ xs.length ∧ xs.length ≤ 4096 ∧ 0 ≤ wi ∧ 0 ≤ bi)) :
 Calls Try.prog 11 #[.slice a xs.length c, .I k, .I n, .I wi, .I bi, .int .u32 ((mk.toNat : Nat) : Int)] w (Ret fun v w' => Ext w w' ∧ v = .bool true) := by
 refine qS (fn := Try.f11) (n := 165) (σ := [(0, .slice a xs.length c), (1, .I k), (2, .I n), (3, .I wi), (4, .I bi), (5, .int .u32 ((mk.toNat : Nat) : Int))]) Try.func11 ?_
 have H := Hp.startF (w := w) (S := S) (G := [Rp SB [.slice a xs.length c] xs]) (.rp h .nil)
 refine qR 4 [.c [1, 0, 0], .c [1, 0, 1], .c [2]] [(0, .slice a xs.length c), (1, .I k), (2, .I n), (3, .I wi), (4, .I bi), (5, .int .u32 ((mk.toNat : Nat) : Int))] ?_
 refine WK.join (fun b_ : Bool => b_ = decide (k < 1 ∨ k > n ∨ n > 20 ∨ xs.length < 1 ∨ xs.length > 4096 ∨ wi < 0 ∨ bi < 0)) (fun b_ => [(0, .slice a xs.length c), (1, .I k), (2, .I n), (3, .I wi), (4, .I bi), (5, .int .u32 ((mk.toNat : Nat) : Int)), (52, .bool b_)]) [Cq Try.prog 11 [1, 0, 1], Cq Try.prog 11 [2]] (fun hJ1 => ?_) (fun bj2 hbj3 => ?_)
 ·
  refine qG (sq 0 29) ?_
  refine qP 3 (sq 3 29) [(0, .slice a xs.length c), (1, .I k), (2, .I n), (3, .I wi), (4, .I bi), (5, .int .u32 ((mk.toNat : Nat) : Int)), (26, .bool (decide ((k : Int) < 1)))] ?_
  refine tD (fun b_ => [(0, .slice a xs.length c), (1, .I k), (2, .I n), (3, .I wi), (4, .I bi), (5, .int .u32 ((mk.toNat : Nat) : Int)), (26, .bool b_)]) ((k : Int) < 1) (fun h4 => ?_) (fun h4 => ?_)
  ·
   refine qF 26 [(0, .slice a xs.length c), (1, .I k), (2, .I n), (3, .I wi), (4, .I bi), (5, .int .u32 ((mk.toNat : Nat) : Int)), (52, .bool true)] ?_
   exact hJ1 true ((decide_eq_true (by omega)).symm)
  ·
   refine qP 5 (sq 8 29) [(0, .slice a xs.length c), (1, .I k), (2, .I n), (3, .I wi), (4, .I bi), (5, .int .u32 ((mk.toNat : Nat) : Int)), (31, .bool (decide ((k : Int) > n)))] ?_
   refine tD (fun b_ => [(0, .slice a xs.length c), (1, .I k), (2, .I n), (3, .I wi), (4, .I bi), (5, .int .u32 ((mk.toNat : Nat) : Int)), (31, .bool b_)]) ((k : Int) > n) (fun h5 => ?_) (fun h5 => ?_)
   ·
    refine qF 21 [(0, .slice a xs.length c), (1, .I k), (2, .I n), (3, .I wi), (4, .I bi), (5, .int .u32 ((mk.toNat : Nat) : Int)), (52, .bool true)] ?_
    exact hJ1 true ((decide_eq_true (by omega)).symm)
   ·
    refine qP 4 (sq 12 29) [(0, .slice a xs.length c), (1, .I k), (2, .I n), (3, .I wi), (4, .I bi), (5, .int .u32 ((mk.toNat : Nat) : Int)), (35, .bool (decide ((n : Int) > 20)))] ?_
    refine tD (fun b_ => [(0, .slice a xs.length c), (1, .I k), (2, .I n), (3, .I wi), (4, .I bi), (5, .int .u32 ((mk.toNat : Nat) : Int)), (35, .bool b_)]) ((n : Int) > 20) (fun h6 => ?_) (fun h6 => ?_)
    ·
     refine qF 17 [(0, .slice a xs.length c), (1, .I k), (2, .I n), (3, .I wi), (4, .I bi), (5, .int .u32 ((mk.toNat : Nat) : Int)), (52, .bool true)] ?_
     exact hJ1 true ((decide_eq_true (by omega)).symm)
    ·
     refine qP 5 (sq 17 29) [(0, .slice a xs.length c), (1, .I k), (2, .I n), (3, .I wi), (4, .I bi), (5, .int .u32 ((mk.toNat : Nat) : Int)), (40, .bool (decide ((((xs.length : Nat) : Int) : Int) < 1)))] ?_
     refine tD (fun b_ => [(0, .slice a xs.length c), (1, .I k), (2, .I n), (3, .I wi), (4, .I bi), (5, .int .u32 ((mk.toNat : Nat) : Int)), (40, .bool b_)]) ((((xs.length : Nat) : Int) : Int) < 1) (fun h7 => ?_) (fun h7 => ?_)
     ·
      refine qF 12 [(0, .slice a xs.length c), (1, .I k), (2, .I n), (3, .I wi), (4, .I bi), (5, .int .u32 ((mk.toNat : Nat) : Int)), (52, .bool true)] ?_
      exact hJ1 true ((decide_eq_true (by omega)).symm)
     ·
      refine qP 5 (sq 22 29) [(0, .slice a xs.length c), (1, .I k), (2, .I n), (3, .I wi), (4, .I bi), (5, .int .u32 ((mk.toNat : Nat) : Int)), (45, .bool (decide ((((xs.length : Nat) : Int) : Int) > 4096)))] ?_
      refine tD (fun b_ => [(0, .slice a xs.length c), (1, .I k), (2, .I n), (3, .I wi), (4, .I bi), (5, .int .u32 ((mk.toNat : Nat) : Int)), (45, .bool b_)]) ((((xs.length : Nat) : Int) : Int) > 4096) (fun h8 => ?_) (fun h8 => ?_)
      ·
       refine qF 7 [(0, .slice a xs.length c), (1, .I k), (2, .I n), (3, .I wi), (4, .I bi), (5, .int .u32 ((mk.toNat : Nat) : Int)), (52, .bool true)] ?_
       exact hJ1 true ((decide_eq_true (by omega)).symm)
      ·
       refine qP 4 (sq 26 29) [(0, .slice a xs.length c), (1, .I k), (2, .I n), (3, .I wi), (4, .I bi), (5, .int .u32 ((mk.toNat : Nat) : Int)), (49, .bool (decide ((wi : Int) < 0)))] ?_
       refine tD (fun b_ => [(0, .slice a xs.length c), (1, .I k), (2, .I n), (3, .I wi), (4, .I bi), (5, .int .u32 ((mk.toNat : Nat) : Int)), (49, .bool b_)]) ((wi : Int) < 0) (fun h9 => ?_) (fun h9 => ?_)
       ·
        refine qF 3 [(0, .slice a xs.length c), (1, .I k), (2, .I n), (3, .I wi), (4, .I bi), (5, .int .u32 ((mk.toNat : Nat) : Int)), (52, .bool true)] ?_
        exact hJ1 true ((decide_eq_true (by omega)).symm)
       ·
        refine qF 3 [(0, .slice a xs.length c), (1, .I k), (2, .I n), (3, .I wi), (4, .I bi), (5, .int .u32 ((mk.toNat : Nat) : Int)), (52, .bool (decide ((bi : Int) < 0)))] ?_
        exact hJ1 (decide ((bi : Int) < 0)) (decide_eq_decide.2 (by constructor <;> intro _ <;> omega))
 ·
  refine qC bj2 (fun h10 => ?_) (fun h10 => ?_)
  ·
   rw [hbj3] at h10
   replace h10 := of_decide_eq_true h10
   refine qR 1 [.c [1, 0, 1, 0, 0], .c [1, 0, 1, 0, 1], .c [2]] [] ?_
   refine qG (sq 0 2) ?_
   refine qK .seq (some 53) (sq 1 2) 28 #[] (heads_spec (S := fun _ => True)) ?_
   rintro _ w11 hE12 rfl
   have H := H.ext hE12
   refine qF 1 [(12, .bool true)] ?_
   refine qT (.bool true) Try.func11 ?_
   exact ⟨_, rfl, H.done, rfl⟩
  ·
   rw [hbj3] at h10
   replace h10 := of_decide_eq_false h10
   exact absurd (by omega) hb

set_option maxHeartbeats 2000000 in
theorem told_ok {S : Nat → Prop} {w : World} {xs : List (BitVec 8)} {a : Option Addr} {c : Nat} (h : SB.rep S w [.slice a xs.length c] xs) {k n wi bi : Nat} (mk : BitVec 32) (hk : 1 ≤ k) (hkn : k ≤ n) (hn : n ≤ 20) (hs1 : 1 ≤ xs.length) (hs : xs.length ≤ 4096) :
 Calls Try.prog 11 #[.slice a xs.length c, .I k, .I n, .I wi, .I bi, .int .u32 ((mk.toNat : Nat) : Int)] w (Ret fun v w' => Ext w w' ∧ v = .bool true) := by
 obtain ⟨i, hiw⟩ : ∃ i : Nat, (wi : Int) % (n : Int) = (i : Int) := ⟨wi % n, rfl⟩
 have hil : (i : Int) < (n : Int) := hiw ▸ Int.emod_lt_of_pos _ (by omega)
 have hDl : (rowAt (enc xs k n) i).length = lenOf xs.length k := row_len hkn (by omega)
 have hL1 := lenOf_one hs1 hk
 have hL2 := lenOf_le (size := xs.length) (k := k) (by omega)
 obtain ⟨q, hqb⟩ : ∃ q : Nat, (bi : Int) % (8 * (((rowAt (enc xs k n) i).length : Nat) : Int)) = (q : Int) := ⟨bi % (8 * (rowAt (enc xs k n) i).length), rfl⟩
 have hql : (q : Int) < 8 * (((rowAt (enc xs k n) i).length : Nat) : Int) := hqb ▸ Int.emod_lt_of_pos _ (by omega)
 have hhl : (headsOf ⟨1, 0, 0⟩ xs.length k (enc xs k n)).length = n := by rw [headsOf_len, enc_len hkn]
 refine qS (fn := Try.f11) (n := 165) (σ := [(0, .slice a xs.length c), (1, .I k), (2, .I n), (3, .I wi), (4, .I bi), (5, .int .u32 ((mk.toNat : Nat) : Int))]) Try.func11 ?_
 have H := Hp.startF (w := w) (S := S) (G := [Rp SB [.slice a xs.length c] xs]) (.rp h .nil)
 refine qR 4 [.c [1, 0, 0], .c [1, 0, 1], .c [2]] [(0, .slice a xs.length c), (1, .I k), (2, .I n), (3, .I wi), (4, .I bi), (5, .int .u32 ((mk.toNat : Nat) : Int))] ?_
 refine qG (sq 0 29) ?_
 refine qP 3 (sq 3 29) [(0, .slice a xs.length c), (1, .I k), (2, .I n), (3, .I wi), (4, .I bi), (5, .int .u32 ((mk.toNat : Nat) : Int)), (26, .bool (decide (((k : Int) : Int) < 1)))] ?_
 refine tD (fun b_ => [(0, .slice a xs.length c), (1, .I k), (2, .I n), (3, .I wi), (4, .I bi), (5, .int .u32 ((mk.toNat : Nat) : Int)), (26, .bool b_)]) (((k : Int) : Int) < 1) (fun h1 => ?_) (fun h1 => ?_)
 ·
  omega
 ·
  refine qP 5 (sq 8 29) [(0, .slice a xs.length c), (1, .I k), (2, .I n), (3, .I wi), (4, .I bi), (5, .int .u32 ((mk.toNat : Nat) : Int)), (31, .bool (decide (((k : Int) : Int) > (n : Int))))] ?_
  refine tD (fun b_ => [(0, .slice a xs.length c), (1, .I k), (2, .I n), (3, .I wi), (4, .I bi), (5, .int .u32 ((mk.toNat : Nat) : Int)), (31, .bool b_)]) (((k : Int) : Int) > (n : Int)) (fun h2 => ?_) (fun h2 => ?_)
  ·
   omega
  ·
   refine qP 4 (sq 12 29) [(0, .slice a xs.length c), (1, .I k), (2, .I n), (3, .I wi), (4, .I bi), (5, .int .u32 ((mk.toNat : Nat) : Int)), (35, .bool (decide (((n : Int) : Int) > 20)))] ?_
   refine tD (fun b_ => [(0, .slice a xs.length c), (1, .I k), (2, .I n), (3, .I wi), (4, .I bi), (5, .int .u32 ((mk.toNat : Nat) : Int)), (35, .bool b_)]) (((n : Int) : Int) > 20) (fun h3 => ?_) (fun h3 => ?_)
   ·
    omega
   ·
    refine qP 5 (sq 17 29) [(0, .slice a xs.length c), (1, .I k), (2, .I n), (3, .I wi), (4, .I bi), (5, .int .u32 ((mk.toNat : Nat) : Int)), (40, .bool (decide ((((xs.length : Nat) : Int) : Int) < 1)))] ?_
    refine tD (fun b_ => [(0, .slice a xs.length c), (1, .I k), (2, .I n), (3, .I wi), (4, .I bi), (5, .int .u32 ((mk.toNat : Nat) : Int)), (40, .bool b_)]) ((((xs.length : Nat) : Int) : Int) < 1) (fun h4 => ?_) (fun h4 => ?_)
    ·
     omega
    ·
     refine qP 5 (sq 22 29) [(0, .slice a xs.length c), (1, .I k), (2, .I n), (3, .I wi), (4, .I bi), (5, .int .u32 ((mk.toNat : Nat) : Int)), (45, .bool (decide ((((xs.length : Nat) : Int) : Int) > 4096)))] ?_
     refine tD (fun b_ => [(0, .slice a xs.length c), (1, .I k), (2, .I n), (3, .I wi), (4, .I bi), (5, .int .u32 ((mk.toNat : Nat) : Int)), (45, .bool b_)]) ((((xs.length : Nat) : Int) : Int) > 4096) (fun h5 => ?_) (fun h5 => ?_)
     ·
      omega
     ·
      refine qP 4 (sq 26 29) [(0, .slice a xs.length c), (1, .I k), (2, .I n), (3, .I wi), (4, .I bi), (5, .int .u32 ((mk.toNat : Nat) : Int)), (49, .bool (decide (((wi : Int) : Int) < 0)))] ?_
      refine tD (fun b_ => [(0, .slice a xs.length c), (1, .I k), (2, .I n), (3, .I wi), (4, .I bi), (5, .int .u32 ((mk.toNat : Nat) : Int)), (49, .bool b_)]) (((wi : Int) : Int) < 0) (fun h6 => ?_) (fun h6 => ?_)
      ·
       omega
      ·
       refine qF 3 [(0, .slice a xs.length c), (1, .I k), (2, .I n), (3, .I wi), (4, .I bi), (5, .int .u32 ((mk.toNat : Nat) : Int)), (52, .bool (decide (((bi : Int) : Int) < 0)))] ?_
       refine qD (((bi : Int) : Int) < 0) (fun h7 => ?_) (fun h7 => ?_)
       ·
        omega
       ·
        refine qR 2 [.c [2, 0], .c [3]] [(0, .slice a xs.length c), (1, .I k), (2, .I n), (3, .I wi), (4, .I bi), (5, .int .u32 ((mk.toNat : Nat) : Int))] ?_
        refine qG (sq 0 9) ?_
        refine qP 3 (sq 3 9) [(0, .slice a xs.length c), (1, .I k), (2, .I n), (3, .I wi), (4, .I bi), (5, .int .u32 ((mk.toNat : Nat) : Int)), (55, .slice a xs.length c), (56, .I k), (57, .I n)] ?_
        refine qK .seq (some 58) (sq 4 9) 29 #[.slice a xs.length c, .I k, .I n] (encode_ok (xs := xs) k n (H.rp 0 rfl) (by omega) hk hkn (by omega)) ?_
        rintro _ w8 hE11 ⟨a9, c10, rfl, hr12⟩
        have H := H.addN hE11 (F := Rp (Shape.slice SB) [.slice a9 (enc xs k n).length c10] (enc xs k n)) hr12
        have hel := enc_len (xs := xs) hkn
        refine qF 5 [(0, .slice a xs.length c), (1, .I k), (2, .I n), (3, .I wi), (4, .I bi), (5, .int .u32 ((mk.toNat : Nat) : Int)), (13, .slice a9 (enc xs k n).length c10), (14, .I 0)] ?_
        refine qR 1 [.c [3, 0], .c [4]] [(0, .slice a xs.length c), (1, .I k), (2, .I n), (3, .I wi), (4, .I bi), (5, .int .u32 ((mk.toNat : Nat) : Int)), (13, .slice a9 (enc xs k n).length c10), (14, .I 0)] ?_
        refine qG (sq 0 11) ?_
        refine qP 5 (sq 5 11) [(2, .I n), (3, .I wi), (4, .I bi), (5, .int .u32 ((mk.toNat : Nat) : Int)), (13, .slice a9 (enc xs k n).length c10), (14, .I 0), (62, .slice a9 (enc xs k n).length c10), (63, .agg #[.int .u64 1, .I 0, .int .u64 0]), (65, .I ((xs.length : Nat) : Int)), (66, .I k)] ?_
        refine qK .seq (some 67) (sq 6 11) 38 #[.slice a9 (enc xs k n).length c10, .agg #[.int .u64 1, .I 0, .int .u64 0], .I ((xs.length : Nat) : Int), .I k] (heads_ok (S := Av S w [] (idsOf [] [])) (cs := enc xs k n) (id := ⟨1, 0, 0⟩) xs.length k (H.rp 0 rfl) (cid_mk (Shape.int_mk (by decide)) (Shape.int_mk (by decide)) (Shape.int_mk (by decide))) (by omega) (by omega) (by omega) (by omega) (encD_all)) ?_
        rintro _ w13 hE16 ⟨a14, c15, rfl, hr17⟩
        have H := H.addN hE16 (F := Rp (Shape.slice hdrS) [.slice a14 ((headsOf (⟨1, 0, 0⟩) xs.length k (enc xs k n)).length) c15] (headsOf (⟨1, 0, 0⟩) xs.length k (enc xs k n))) hr17
        refine qF 5 [(2, .I n), (3, .I wi), (4, .I bi), (5, .int .u32 ((mk.toNat : Nat) : Int)), (13, .slice a9 (enc xs k n).length c10), (14, .I 0), (15, .slice a14 ((headsOf (⟨1, 0, 0⟩) xs.length k (enc xs k n)).length) c15), (16, .I 0)] ?_
        refine qR 3 [.c [4, 0, 1], .c [5]] [(2, .I n), (3, .I wi), (4, .I bi), (5, .int .u32 ((mk.toNat : Nat) : Int)), (13, .slice a9 (enc xs k n).length c10), (15, .slice a14 ((headsOf (⟨1, 0, 0⟩) xs.length k (enc xs k n)).length) c15), (81, .bool ((((headsOf (⟨1, 0, 0⟩) xs.length k (enc xs k n)).length : Nat) : Int) != (n : Int)))] ?_
        refine qN (((headsOf (⟨1, 0, 0⟩) xs.length k (enc xs k n)).length : Nat) : Int) (n : Int) (fun h18 => ?_) (fun h18 => ?_)
        ·
         omega
        ·
         refine qR 2 [.c [5, 0], .c [6]] [(2, .I n), (3, .I wi), (4, .I bi), (5, .int .u32 ((mk.toNat : Nat) : Int)), (13, .slice a9 (enc xs k n).length c10), (15, .slice a14 ((headsOf (⟨1, 0, 0⟩) xs.length k (enc xs k n)).length) c15)] ?_
         refine qG (sq 0 4) ?_
         refine qP 2 (sq 2 4) [(4, .I bi), (5, .int .u32 ((mk.toNat : Nat) : Int)), (13, .slice a9 (enc xs k n).length c10), (15, .slice a14 ((headsOf (⟨1, 0, 0⟩) xs.length k (enc xs k n)).length) c15), (82, .I wi), (83, .I n)] ?_
         refine RW.readS (κ := .seq) (d := some 84) (r := (sq 3 4)) (s := semV (Op.intDiv .rem .i64 (wi : Int) (n : Int))) (v := .I i) (by as_aux_lemma => kernel_rfl) (fun w' _ => semV_run (rem_nat (r := i) (by omega) (by omega) (hiw))) ?_
         refine qF 1 [(4, .I bi), (5, .int .u32 ((mk.toNat : Nat) : Int)), (13, .slice a9 (enc xs k n).length c10), (15, .slice a14 ((headsOf (⟨1, 0, 0⟩) xs.length k (enc xs k n)).length) c15), (17, .I i)] ?_
         refine qR 1 [.c [6, 0], .c [7]] [(4, .I bi), (5, .int .u32 ((mk.toNat : Nat) : Int)), (13, .slice a9 (enc xs k n).length c10), (15, .slice a14 ((headsOf (⟨1, 0, 0⟩) xs.length k (enc xs k n)).length) c15), (17, .I i)] ?_
         refine qG (sq 0 6) ?_
         refine qP 2 (sq 2 6) [(4, .I bi), (5, .int .u32 ((mk.toNat : Nat) : Int)), (13, .slice a9 (enc xs k n).length c10), (15, .slice a14 ((headsOf (⟨1, 0, 0⟩) xs.length k (enc xs k n)).length) c15), (17, .I i), (85, .slice a9 (enc xs k n).length c10), (86, .I i)] ?_
         have hx19 : i < (enc xs k n).length := by omega
         refine qX .seq 87 (sq 3 6) 29 23 (i : Int) SB (rowAt (enc xs k n) i) H 1 rfl i (by omega) (by rw [List.getElem?_eq_getElem (by omega), rowAt_eq (by omega)]) ?_
         intro b20 o21 es22 hr23 H
         obtain ⟨a24, k25, rfl⟩ := Shape.slice_form' hr23
         have H := H.add (F := Rp SB [.slice a24 ((rowAt (enc xs k n) i).length) k25] (rowAt (enc xs k n) i)) hr23
         refine qL .seq 88 (sq 4 6) 23 b20 o21 0 (.slice a24 ((rowAt (enc xs k n) i).length) k25) (H.fc 1 rfl) ?_
         refine qK .seq (some 89) (sq 5 6) 33 #[.slice a24 ((rowAt (enc xs k n) i).length) k25] (copyB_own (H.rp 0 rfl) (by omega)) ?_
         rintro v27 w26 - H'
         have H := H.back (M1 := []) (W1 := []) H'
         obtain ⟨a28, c29, rfl, hc30, hm31⟩ := H.ownForm 0 rfl
         have H : Hp w S [] [] [⟨Sb, 5, .slice a28 ((rowAt (enc xs k n) i).length) c29, (rowAt (enc xs k n) i)⟩] [Rp SB [.slice a24 ((rowAt (enc xs k n) i).length) k25] (rowAt (enc xs k n) i), Fc b20 o21 [.slice a24 ((rowAt (enc xs k n) i).length) k25], Rp (Shape.slice hdrS) [.slice a14 ((headsOf (⟨1, 0, 0⟩) xs.length k (enc xs k n)).length) c15] (headsOf (⟨1, 0, 0⟩) xs.length k (enc xs k n)), Rp (Shape.slice SB) [.slice a9 (enc xs k n).length c10] (enc xs k n), Rp SB [.slice a xs.length c] xs] _ := H
         refine qF 1 [(4, .I bi), (5, .int .u32 ((mk.toNat : Nat) : Int)), (13, .slice a9 (enc xs k n).length c10), (15, .slice a14 ((headsOf (⟨1, 0, 0⟩) xs.length k (enc xs k n)).length) c15), (17, .I i), (18, .slice a28 ((rowAt (enc xs k n) i).length) c29)] ?_
         refine qR 3 [.c [7, 0, 1], .c [8]] [(4, .I bi), (5, .int .u32 ((mk.toNat : Nat) : Int)), (13, .slice a9 (enc xs k n).length c10), (15, .slice a14 ((headsOf (⟨1, 0, 0⟩) xs.length k (enc xs k n)).length) c15), (17, .I i), (18, .slice a28 ((rowAt (enc xs k n) i).length) c29), (92, .bool ((((rowAt (enc xs k n) i).length : Nat) : Int) == 0))] ?_
         refine qE (((rowAt (enc xs k n) i).length : Nat) : Int) 0 (fun h32 => ?_) (fun h32 => ?_)
         ·
          omega
         ·
          refine qR 2 [.c [8, 0], .c [9]] [(4, .I bi), (5, .int .u32 ((mk.toNat : Nat) : Int)), (13, .slice a9 (enc xs k n).length c10), (15, .slice a14 ((headsOf (⟨1, 0, 0⟩) xs.length k (enc xs k n)).length) c15), (17, .I i), (18, .slice a28 ((rowAt (enc xs k n) i).length) c29)] ?_
          refine qG (sq 0 6) ?_
          refine qP 3 (sq 3 6) [(5, .int .u32 ((mk.toNat : Nat) : Int)), (13, .slice a9 (enc xs k n).length c10), (15, .slice a14 ((headsOf (⟨1, 0, 0⟩) xs.length k (enc xs k n)).length) c15), (17, .I i), (18, .slice a28 ((rowAt (enc xs k n) i).length) c29), (93, .I bi), (95, .I (((rowAt (enc xs k n) i).length : Nat) : Int))] ?_
          refine qI .seq 96 (sq 4 6) (8 * (((rowAt (enc xs k n) i).length : Nat) : Int)) ?_
          refine RW.readS (κ := .seq) (d := some 97) (r := (sq 5 6)) (s := semV (Op.intDiv .rem .i64 (bi : Int) (8 * (((rowAt (enc xs k n) i).length : Nat) : Int)))) (v := .I q) (by as_aux_lemma => kernel_rfl) (fun w' _ => semV_run (rem_nat (r := q) (by omega) (by omega) (hqb))) ?_
          refine qF 1 [(5, .int .u32 ((mk.toNat : Nat) : Int)), (13, .slice a9 (enc xs k n).length c10), (15, .slice a14 ((headsOf (⟨1, 0, 0⟩) xs.length k (enc xs k n)).length) c15), (17, .I i), (18, .slice a28 ((rowAt (enc xs k n) i).length) c29), (19, .I q)] ?_
          refine qR 6 [.c [10, 0, 1, 0], .b 0, .c [11]] [(5, .int .u32 ((mk.toNat : Nat) : Int)), (13, .slice a9 (enc xs k n).length c10), (15, .slice a14 ((headsOf (⟨1, 0, 0⟩) xs.length k (enc xs k n)).length) c15), (17, .I i), (18, .slice a28 ((rowAt (enc xs k n) i).length) c29), (19, .I q), (20, .bool false), (21, .I 0)] ?_
          have H : Hp w S [] [] [⟨Sb, 5, .slice a28 ((rowAt (enc xs k n) i).length) c29, turned (rowAt (enc xs k n) i) q mk 0⟩] [Rp SB [.slice a24 ((rowAt (enc xs k n) i).length) k25] (rowAt (enc xs k n) i), Fc b20 o21 [.slice a24 ((rowAt (enc xs k n) i).length) k25], Rp (Shape.slice hdrS) [.slice a14 ((headsOf (⟨1, 0, 0⟩) xs.length k (enc xs k n)).length) c15] (headsOf (⟨1, 0, 0⟩) xs.length k (enc xs k n)), Rp (Shape.slice SB) [.slice a9 (enc xs k n).length c10] (enc xs k n), Rp SB [.slice a xs.length c] xs] _ := H
          have H := H.pick [0, 2, 3, 4] (G' := [Rp SB [.slice a24 ((rowAt (enc xs k n) i).length) k25] (rowAt (enc xs k n) i), Rp (Shape.slice hdrS) [.slice a14 ((headsOf (⟨1, 0, 0⟩) xs.length k (enc xs k n)).length) c15] (headsOf (⟨1, 0, 0⟩) xs.length k (enc xs k n)), Rp (Shape.slice SB) [.slice a9 (enc xs k n).length c10] (enc xs k n), Rp SB [.slice a xs.length c] xs]) rfl
          refine WK.loop (α := Nat) (b := cd Try.prog 11 [10, 0, 1, 0, 0]) (by as_aux_lemma => kernel_rfl) (fun m => [(5, .int .u32 ((mk.toNat : Nat) : Int)), (13, .slice a9 (enc xs k n).length c10), (15, .slice a14 ((headsOf (⟨1, 0, 0⟩) xs.length k (enc xs k n)).length) c15), (17, .I i), (18, .slice a28 ((rowAt (enc xs k n) i).length) c29), (19, .I q), (20, .bool (anyB mk m)), (21, .I m)]) (fun m w' => Hp w S [] [] [⟨Sb, 5, .slice a28 ((rowAt (enc xs k n) i).length) c29, turned (rowAt (enc xs k n) i) q mk m⟩] [Rp SB [.slice a24 ((rowAt (enc xs k n) i).length) k25] (rowAt (enc xs k n) i), Rp (Shape.slice hdrS) [.slice a14 ((headsOf (⟨1, 0, 0⟩) xs.length k (enc xs k n)).length) c15] (headsOf (⟨1, 0, 0⟩) xs.length k (enc xs k n)), Rp (Shape.slice SB) [.slice a9 (enc xs k n).length c10] (enc xs k n), Rp SB [.slice a xs.length c] xs] w' ∧ m ≤ 32 ∧ q + m ≤ 8 * (rowAt (enc xs k n) i).length) (fun m => 32 - m) 0 ⟨H, by omega, by omega⟩ (rfl) ?_
          rintro m w34 ⟨H, hinv0⟩ hback33
          refine qR 2 [.c [10, 0, 1, 0, 0, 0, 0], .c [10, 0, 1, 0, 0, 0, 1], .c [10, 0, 1, 0, 0, 1], .l [10, 0, 1, 0, 0], .b 0, .c [11]] [(5, .int .u32 ((mk.toNat : Nat) : Int)), (13, .slice a9 (enc xs k n).length c10), (15, .slice a14 ((headsOf (⟨1, 0, 0⟩) xs.length k (enc xs k n)).length) c15), (17, .I i), (18, .slice a28 ((rowAt (enc xs k n) i).length) c29), (19, .I q), (20, .bool (anyB mk m)), (21, .I m)] ?_
          refine WK.join (fun b_ : Bool => b_ = decide (m < 32 ∧ q + m < 8 * (rowAt (enc xs k n) i).length)) (fun b_ => [(5, .int .u32 ((mk.toNat : Nat) : Int)), (13, .slice a9 (enc xs k n).length c10), (15, .slice a14 ((headsOf (⟨1, 0, 0⟩) xs.length k (enc xs k n)).length) c15), (17, .I i), (18, .slice a28 ((rowAt (enc xs k n) i).length) c29), (19, .I q), (20, .bool (anyB mk m)), (21, .I m), (108, .bool b_)]) [Cq Try.prog 11 [10, 0, 1, 0, 0, 0, 1], Cq Try.prog 11 [10, 0, 1, 0, 0, 1], Lq Try.prog 11 [10, 0, 1, 0, 0], .inBlock 0, Cq Try.prog 11 [11]] (fun hJ35 => ?_) (fun bj36 hbj37 => ?_)
          ·
           refine qG (sq 0 11) ?_
           refine qP 3 (sq 3 11) [(5, .int .u32 ((mk.toNat : Nat) : Int)), (13, .slice a9 (enc xs k n).length c10), (15, .slice a14 ((headsOf (⟨1, 0, 0⟩) xs.length k (enc xs k n)).length) c15), (17, .I i), (18, .slice a28 ((rowAt (enc xs k n) i).length) c29), (19, .I q), (20, .bool (anyB mk m)), (21, .I m), (100, .bool (decide (((m : Int) : Int) < 32)))] ?_
           refine tD (fun b_ => [(5, .int .u32 ((mk.toNat : Nat) : Int)), (13, .slice a9 (enc xs k n).length c10), (15, .slice a14 ((headsOf (⟨1, 0, 0⟩) xs.length k (enc xs k n)).length) c15), (17, .I i), (18, .slice a28 ((rowAt (enc xs k n) i).length) c29), (19, .I q), (20, .bool (anyB mk m)), (21, .I m), (100, .bool b_)]) (((m : Int) : Int) < 32) (fun h38 => ?_) (fun h38 => ?_)
           ·
            refine qP 2 (sq 5 11) [(5, .int .u32 ((mk.toNat : Nat) : Int)), (13, .slice a9 (enc xs k n).length c10), (15, .slice a14 ((headsOf (⟨1, 0, 0⟩) xs.length k (enc xs k n)).length) c15), (17, .I i), (18, .slice a28 ((rowAt (enc xs k n) i).length) c29), (19, .I q), (20, .bool (anyB mk m)), (21, .I m), (100, .bool true), (101, .I q), (102, .I m)] ?_
            refine qI .seq 103 (sq 6 11) ((q : Int) + (m : Int)) ?_
            refine qP 2 (sq 8 11) [(5, .int .u32 ((mk.toNat : Nat) : Int)), (13, .slice a9 (enc xs k n).length c10), (15, .slice a14 ((headsOf (⟨1, 0, 0⟩) xs.length k (enc xs k n)).length) c15), (17, .I i), (18, .slice a28 ((rowAt (enc xs k n) i).length) c29), (19, .I q), (20, .bool (anyB mk m)), (21, .I m), (100, .bool true), (103, .I ((q : Int) + (m : Int))), (105, .I (((rowAt (enc xs k n) i).length : Nat) : Int))] ?_
            refine qI .seq 106 (sq 9 11) (8 * (((rowAt (enc xs k n) i).length : Nat) : Int)) ?_
            refine qF 2 [(5, .int .u32 ((mk.toNat : Nat) : Int)), (13, .slice a9 (enc xs k n).length c10), (15, .slice a14 ((headsOf (⟨1, 0, 0⟩) xs.length k (enc xs k n)).length) c15), (17, .I i), (18, .slice a28 ((rowAt (enc xs k n) i).length) c29), (19, .I q), (20, .bool (anyB mk m)), (21, .I m), (108, .bool (decide (((q : Int) + (m : Int) : Int) < 8 * (((rowAt (enc xs k n) i).length : Nat) : Int))))] ?_
            exact hJ35 (decide (((q : Int) + (m : Int) : Int) < 8 * (((rowAt (enc xs k n) i).length : Nat) : Int))) (decide_eq_decide.2 (by constructor <;> intro _ <;> omega))
           ·
            refine qF 8 [(5, .int .u32 ((mk.toNat : Nat) : Int)), (13, .slice a9 (enc xs k n).length c10), (15, .slice a14 ((headsOf (⟨1, 0, 0⟩) xs.length k (enc xs k n)).length) c15), (17, .I i), (18, .slice a28 ((rowAt (enc xs k n) i).length) c29), (19, .I q), (20, .bool (anyB mk m)), (21, .I m), (108, .bool false)] ?_
            exact hJ35 false ((decide_eq_false (by omega)).symm)
          ·
           refine qC bj36 (fun h39 => ?_) (fun h39 => ?_)
           ·
            rw [hbj37] at h39
            replace h39 := of_decide_eq_true h39
            refine qR 4 [.c [10, 0, 1, 0, 0, 1, 0, 0, 0], .c [10, 0, 1, 0, 0, 1, 0, 0, 1], .b 1, .c [10, 0, 1, 0, 0, 2], .l [10, 0, 1, 0, 0], .b 0, .c [11]] [(5, .int .u32 ((mk.toNat : Nat) : Int)), (13, .slice a9 (enc xs k n).length c10), (15, .slice a14 ((headsOf (⟨1, 0, 0⟩) xs.length k (enc xs k n)).length) c15), (17, .I i), (18, .slice a28 ((rowAt (enc xs k n) i).length) c29), (19, .I q), (20, .bool (anyB mk m)), (21, .I m)] ?_
            refine qG (sq 0 6) ?_
            refine qP 2 (sq 2 6) [(5, .int .u32 ((mk.toNat : Nat) : Int)), (13, .slice a9 (enc xs k n).length c10), (15, .slice a14 ((headsOf (⟨1, 0, 0⟩) xs.length k (enc xs k n)).length) c15), (17, .I i), (18, .slice a28 ((rowAt (enc xs k n) i).length) c29), (19, .I q), (20, .bool (anyB mk m)), (21, .I m), (111, .int .u32 ((mk.toNat : Nat) : Int)), (112, .I m)] ?_
            refine RW.pv (κ := .seq) (d := some 113) (r := (sq 3 6)) (v := .int .u64 (IntKind.u64.wrap ((m : Int)))) (v' := .int .u64 ((m : Int))) (by as_aux_lemma => kernel_rfl) (wr_u64 (by omega)) ?_
            refine RW.readS (κ := .seq) (d := some 114) (r := (sq 4 6)) (s := semV (Op.shift .shr .u32 ((mk.toNat : Nat) : Int) .u64 (m : Int))) (v := .int .u32 (((mk >>> m).toNat : Nat) : Int)) (by as_aux_lemma => kernel_rfl) (fun w' _ => semV_run (shr_run32 _ (j := m) (by omega) (by omega))) ?_
            refine RW.pv (κ := .seq) (d := some 115) (r := (sq 5 6)) (v := .int .u32 (IntKind.u32.wrap ((BitVec.ofInt 32 (((mk >>> m).toNat : Nat) : Int) &&& BitVec.ofInt 32 1).toNat : Nat))) (v' := .int .u32 (((((mk >>> m) &&& (1#32)).toNat : Nat) : Int))) (by as_aux_lemma => kernel_rfl) (bv_and32 (bvi _) (by decide)) ?_
            refine qF 1 [(5, .int .u32 ((mk.toNat : Nat) : Int)), (13, .slice a9 (enc xs k n).length c10), (15, .slice a14 ((headsOf (⟨1, 0, 0⟩) xs.length k (enc xs k n)).length) c15), (17, .I i), (18, .slice a28 ((rowAt (enc xs k n) i).length) c29), (19, .I q), (20, .bool (anyB mk m)), (21, .I m), (116, .bool (((((mk >>> m) &&& (1#32)).toNat : Nat) : Int) == 1))] ?_
            refine qE ((((mk >>> m) &&& (1#32)).toNat : Nat) : Int) 1 (fun h40 => ?_) (fun h40 => ?_)
            ·
             have hbit := shr_bit.1 h40
             refine qR 1 [.c [10, 0, 1, 0, 0, 1, 0, 0, 1, 0, 0], .c [10, 0, 1, 0, 0, 1, 0, 0, 1, 0, 1], .b 1, .c [10, 0, 1, 0, 0, 2], .l [10, 0, 1, 0, 0], .b 0, .c [11]] [(5, .int .u32 ((mk.toNat : Nat) : Int)), (13, .slice a9 (enc xs k n).length c10), (15, .slice a14 ((headsOf (⟨1, 0, 0⟩) xs.length k (enc xs k n)).length) c15), (17, .I i), (18, .slice a28 ((rowAt (enc xs k n) i).length) c29), (19, .I q), (21, .I m)] ?_
             refine qG (sq 0 21) ?_
             refine qP 3 (sq 3 21) [(5, .int .u32 ((mk.toNat : Nat) : Int)), (13, .slice a9 (enc xs k n).length c10), (15, .slice a14 ((headsOf (⟨1, 0, 0⟩) xs.length k (enc xs k n)).length) c15), (17, .I i), (18, .slice a28 ((rowAt (enc xs k n) i).length) c29), (19, .I q), (21, .I m), (117, .slice a28 ((rowAt (enc xs k n) i).length) c29), (118, .I q), (119, .I m)] ?_
             refine qI .seq 120 (sq 4 21) ((q : Int) + (m : Int)) ?_
             refine RW.pv (κ := .seq) (d := some 121) (r := (sq 5 21)) (v := .I (IntKind.i64.wrap (((q : Int) + (m : Int)).tdiv 8))) (v' := .I (((q : Int) + (m : Int)) / 8)) (by as_aux_lemma => kernel_rfl) (quo_i64 (by decide) (by omega)) ?_
             refine qP 3 (sq 8 21) [(5, .int .u32 ((mk.toNat : Nat) : Int)), (13, .slice a9 (enc xs k n).length c10), (15, .slice a14 ((headsOf (⟨1, 0, 0⟩) xs.length k (enc xs k n)).length) c15), (17, .I i), (18, .slice a28 ((rowAt (enc xs k n) i).length) c29), (19, .I q), (21, .I m), (117, .slice a28 ((rowAt (enc xs k n) i).length) c29), (121, .I (((q : Int) + (m : Int)) / 8)), (122, .slice a28 ((rowAt (enc xs k n) i).length) c29), (123, .I q), (124, .I m)] ?_
             refine qI .seq 125 (sq 9 21) ((q : Int) + (m : Int)) ?_
             refine RW.pv (κ := .seq) (d := some 126) (r := (sq 10 21)) (v := .I (IntKind.i64.wrap (((q : Int) + (m : Int)).tdiv 8))) (v' := .I (((q : Int) + (m : Int)) / 8)) (by as_aux_lemma => kernel_rfl) (quo_i64 (by decide) (by omega)) ?_
             have hn42 : (rowAt (enc xs k n) i).length = (turned (rowAt (enc xs k n) i) q mk m).length := by rw [turned_len]
             have hx41 : (q + m) / 8 < (turned (rowAt (enc xs k n) i) q mk m).length := by rw [turned_len]; omega
             refine RW.indexW (κ := .seq) (d := some 127) (r := (sq 11 21)) (T := 23) (e := 5) (m := 1) (ik := .i64) (ix := ((q : Int) + (m : Int)) / 8) (sh := Sb) (xs := turned (rowAt (enc xs k n) i) q mk m) (a := a28) (len := (rowAt (enc xs k n) i).length) (cap := c29) (by as_aux_lemma => kernel_rfl) (by as_aux_lemma => kernel_rfl) rfl H ((q + m) / 8) (by omega) hx41 hn42 ?_
             intro b43 es44 ha45 hcell46 hr47
             obtain rfl := hr47
             refine qL .seq 128 (sq 12 21) 5 b43 (((q + m) / 8) * 1) 0 (.int .u8 ((((turned (rowAt (enc xs k n) i) q mk m)[(q + m) / 8]).toNat : Nat) : Int)) hcell46 ?_
             refine qP 2 (sq 14 21) [(5, .int .u32 ((mk.toNat : Nat) : Int)), (13, .slice a9 (enc xs k n).length c10), (15, .slice a14 ((headsOf (⟨1, 0, 0⟩) xs.length k (enc xs k n)).length) c15), (17, .I i), (18, .slice a28 ((rowAt (enc xs k n) i).length) c29), (19, .I q), (21, .I m), (117, .slice a28 ((rowAt (enc xs k n) i).length) c29), (121, .I (((q : Int) + (m : Int)) / 8)), (128, .int .u8 ((((turned (rowAt (enc xs k n) i) q mk m)[(q + m) / 8]).toNat : Nat) : Int)), (129, .I q), (130, .I m)] ?_
             refine qI .seq 131 (sq 15 21) ((q : Int) + (m : Int)) ?_
             refine RW.pv (κ := .seq) (d := some 132) (r := (sq 16 21)) (v := .I (((q : Int) + (m : Int)).tmod 8)) (v' := .I (((q : Int) + (m : Int)) % 8)) (by as_aux_lemma => kernel_rfl) (rem_id (by omega)) ?_
             refine RW.pv (κ := .seq) (d := some 133) (r := (sq 17 21)) (v := .int .u64 (IntKind.u64.wrap (((q : Int) + (m : Int)) % 8))) (v' := .int .u64 (((q : Int) + (m : Int)) % 8)) (by as_aux_lemma => kernel_rfl) (wr_u64 (by omega)) ?_
             refine RW.readS (κ := .seq) (d := some 134) (r := (sq 18 21)) (s := semV (Op.shift .shl .u8 1 .u64 (((q : Int) + (m : Int)) % 8))) (v := .int .u8 ((((1#8) <<< ((q + m) % 8)).toNat : Nat) : Int)) (by as_aux_lemma => kernel_rfl) (fun w' _ => semV_run (shl_run8 (by decide) (j := (q + m) % 8) (by omega) (by omega))) ?_
             refine RW.pv (κ := .seq) (d := some 135) (r := (sq 19 21)) (v := .int .u8 (IntKind.u8.wrap ((BitVec.ofInt 8 ((((turned (rowAt (enc xs k n) i) q mk m)[(q + m) / 8]).toNat : Nat) : Int) ^^^ BitVec.ofInt 8 ((((1#8) <<< ((q + m) % 8)).toNat : Nat) : Int)).toNat : Nat))) (v' := .int .u8 ((((((turned (rowAt (enc xs k n) i) q mk m)[(q + m) / 8]) ^^^ ((1#8) <<< ((q + m) % 8))).toNat : Nat) : Int))) (by as_aux_lemma => kernel_rfl) (bv_xor8 (bvi _) (bvi _)) ?_
             have hn49 : (rowAt (enc xs k n) i).length = (turned (rowAt (enc xs k n) i) q mk m).length := by rw [turned_len]
             have hx48 : (q + m) / 8 < (turned (rowAt (enc xs k n) i) q mk m).length := by rw [turned_len]; omega
             refine RW.indexW (κ := .seq) (d := some 136) (r := (sq 20 21)) (T := 23) (e := 5) (m := 1) (ik := .i64) (ix := ((q : Int) + (m : Int)) / 8) (sh := Sb) (xs := turned (rowAt (enc xs k n) i) q mk m) (a := a28) (len := (rowAt (enc xs k n) i).length) (cap := c29) (by as_aux_lemma => kernel_rfl) (by as_aux_lemma => kernel_rfl) rfl H ((q + m) / 8) (by omega) hx48 hn49 ?_
             intro b50 es51 ha52 hcell53 hr54
             obtain rfl := hr54
             refine RW.storeW (d := none) (r := (sq 21 21)) (e := 5) (m := 1) (b := b50) (k := (q + m) / 8) (v := .int .u8 (((((turned (rowAt (enc xs k n) i) q mk m)[(q + m) / 8]) ^^^ ((1#8) <<< ((q + m) % 8))).toNat : Nat) : Int)) (by as_aux_lemma => kernel_rfl) rfl (by as_aux_lemma => kernel_rfl) H ha52 hx48 hn49 (((turned (rowAt (enc xs k n) i) q mk m)[(q + m) / 8]) ^^^ ((1#8) <<< ((q + m) % 8))) Shape.bv_mk ?_
             intro w55 H
             have H := H.reW (ys := turned (rowAt (enc xs k n) i) q mk (m + 1)) (turned_yes hbit (by rw [turned_len]; omega))
             refine qF 0 [(5, .int .u32 ((mk.toNat : Nat) : Int)), (13, .slice a9 (enc xs k n).length c10), (15, .slice a14 ((headsOf (⟨1, 0, 0⟩) xs.length k (enc xs k n)).length) c15), (17, .I i), (18, .slice a28 ((rowAt (enc xs k n) i).length) c29), (19, .I q), (21, .I m)] ?_
             refine qR 2 [.c [10, 0, 1, 0, 0, 2], .l [10, 0, 1, 0, 0], .b 0, .c [11]] [(5, .int .u32 ((mk.toNat : Nat) : Int)), (13, .slice a9 (enc xs k n).length c10), (15, .slice a14 ((headsOf (⟨1, 0, 0⟩) xs.length k (enc xs k n)).length) c15), (17, .I i), (18, .slice a28 ((rowAt (enc xs k n) i).length) c29), (19, .I q), (20, .bool true), (21, .I m)] ?_
             refine qG (sq 0 3) ?_
             refine qP 1 (sq 1 3) [(5, .int .u32 ((mk.toNat : Nat) : Int)), (13, .slice a9 (enc xs k n).length c10), (15, .slice a14 ((headsOf (⟨1, 0, 0⟩) xs.length k (enc xs k n)).length) c15), (17, .I i), (18, .slice a28 ((rowAt (enc xs k n) i).length) c29), (19, .I q), (20, .bool true), (21, .I m), (109, .I m)] ?_
             refine qI .seq 110 (sq 2 3) ((m : Int) + 1) ?_
             refine qF 1 [(5, .int .u32 ((mk.toNat : Nat) : Int)), (13, .slice a9 (enc xs k n).length c10), (15, .slice a14 ((headsOf (⟨1, 0, 0⟩) xs.length k (enc xs k n)).length) c15), (17, .I i), (18, .slice a28 ((rowAt (enc xs k n) i).length) c29), (19, .I q), (20, .bool true), (21, .I ((m : Int) + 1))] ?_

             exact WK.back (hback33 (m + 1) _ ⟨H, by omega, by omega⟩ (by first | omega | (simp only []; omega))) (by first | (rw [anyB_yes hbit]; rfl) | (rw [anyB_no hnb]; rfl))
            ·
             have hnb : mk.getLsbD m = false := by
              cases hc : mk.getLsbD m
              · rfl
              · exact absurd (shr_bit.2 hc) h40
             refine qR 2 [.c [10, 0, 1, 0, 0, 2], .l [10, 0, 1, 0, 0], .b 0, .c [11]] [(5, .int .u32 ((mk.toNat : Nat) : Int)), (13, .slice a9 (enc xs k n).length c10), (15, .slice a14 ((headsOf (⟨1, 0, 0⟩) xs.length k (enc xs k n)).length) c15), (17, .I i), (18, .slice a28 ((rowAt (enc xs k n) i).length) c29), (19, .I q), (20, .bool (anyB mk m)), (21, .I m)] ?_
             refine qG (sq 0 3) ?_
             refine qP 1 (sq 1 3) [(5, .int .u32 ((mk.toNat : Nat) : Int)), (13, .slice a9 (enc xs k n).length c10), (15, .slice a14 ((headsOf (⟨1, 0, 0⟩) xs.length k (enc xs k n)).length) c15), (17, .I i), (18, .slice a28 ((rowAt (enc xs k n) i).length) c29), (19, .I q), (20, .bool (anyB mk m)), (21, .I m), (109, .I m)] ?_
             refine qI .seq 110 (sq 2 3) ((m : Int) + 1) ?_
             refine qF 1 [(5, .int .u32 ((mk.toNat : Nat) : Int)), (13, .slice a9 (enc xs k n).length c10), (15, .slice a14 ((headsOf (⟨1, 0, 0⟩) xs.length k (enc xs k n)).length) c15), (17, .I i), (18, .slice a28 ((rowAt (enc xs k n) i).length) c29), (19, .I q), (20, .bool (anyB mk m)), (21, .I ((m : Int) + 1))] ?_
             have H := H.reW (turned_no hnb).symm
             exact WK.back (hback33 (m + 1) _ ⟨H, by omega, by omega⟩ (by first | omega | (simp only []; omega))) (by first | (rw [anyB_yes hbit]; rfl) | (rw [anyB_no hnb]; rfl))
           ·
            rw [hbj37] at h39
            replace h39 := of_decide_eq_false h39
            refine qR 2 [.c [11, 0], .c [12]] [(13, .slice a9 (enc xs k n).length c10), (15, .slice a14 ((headsOf (⟨1, 0, 0⟩) xs.length k (enc xs k n)).length) c15), (17, .I i), (18, .slice a28 ((rowAt (enc xs k n) i).length) c29), (20, .bool (anyB mk m))] ?_
            refine WK.draw1 11 [(0, .qui), (1, .qui), (2, .qui), (3, .qui), (4, .qui), (5, .qui), (6, .qui), (7, .qui), (8, .qui), (9, .chn), (10, .qui)] [(0, .qui), (1, .qui), (2, .qui), (3, .qui), (4, .qui), (5, .qui), (6, .qui), (7, .qui), (8, .qui), (9, .chn), (10, .qui)] Try_mixed (by as_aux_lemma => kernel_rfl) (by as_aux_lemma => kernel_rfl) (by as_aux_lemma => kernel_rfl) ?_
            have H := H.draw
            generalize ({ w34 with drawn := w34.drawn + 1 } : World) = w56 at H ⊢
            refine qP 2 [(2, .qui), (3, .qui), (4, .qui), (5, .qui), (6, .qui), (7, .qui), (8, .qui), (9, .chn), (10, .qui)] [(13, .slice a9 (enc xs k n).length c10), (15, .slice a14 ((headsOf (⟨1, 0, 0⟩) xs.length k (enc xs k n)).length) c15), (17, .I i), (18, .slice a28 ((rowAt (enc xs k n) i).length) c29), (20, .bool (anyB mk m)), (137, .slice a14 ((headsOf (⟨1, 0, 0⟩) xs.length k (enc xs k n)).length) c15), (138, .I i)] ?_
            have hx57 : i < (headsOf (⟨1, 0, 0⟩) xs.length k (enc xs k n)).length := by omega
            refine qX .qui 139 [(3, .qui), (4, .qui), (5, .qui), (6, .qui), (7, .qui), (8, .qui), (9, .chn), (10, .qui)] 28 53 (i : Int) hdrS (hd1 xs k n i) H 1 rfl i (by omega) (by rw [List.getElem?_eq_getElem (by omega), heads1_at hkn (by omega)]) ?_
            intro b58 o59 es60 hr61 H
            obtain ⟨cs0q62, rfl, hf63, hf64, hf65, hf66⟩ := hdr_open hr61
            obtain ⟨rfl, hf68, hf69, hf70⟩ := cid_open hf63
            refine qL .qui 140 [(4, .qui), (5, .qui), (6, .qui), (7, .qui), (8, .qui), (9, .chn), (10, .qui)] 53 b58 o59 0 (.agg (hdrV (hd1 xs k n i)).toArray) (H.fc 0 rfl) ?_
            refine qP 2 [(6, .qui), (7, .qui), (8, .qui), (9, .chn), (10, .qui)] [(15, .slice a14 ((headsOf (⟨1, 0, 0⟩) xs.length k (enc xs k n)).length) c15), (17, .I i), (18, .slice a28 ((rowAt (enc xs k n) i).length) c29), (20, .bool (anyB mk m)), (140, .agg (hdrV (hd1 xs k n i)).toArray), (141, .slice a9 (enc xs k n).length c10), (142, .I i)] ?_
            have hx71 : i < (enc xs k n).length := by omega
            refine qX .qui 143 [(7, .qui), (8, .qui), (9, .chn), (10, .qui)] 29 23 (i : Int) SB (rowAt (enc xs k n) i) H 3 rfl i (by omega) (by rw [List.getElem?_eq_getElem (by omega), rowAt_eq (by omega)]) ?_
            intro b72 o73 es74 hr75 H
            obtain ⟨a76, k77, rfl⟩ := Shape.slice_form' hr75
            have H := H.add (F := Rp SB [.slice a76 ((rowAt (enc xs k n) i).length) k77] (rowAt (enc xs k n) i)) hr75
            refine qL .qui 144 [(8, .qui), (9, .chn), (10, .qui)] 23 b72 o73 0 (.slice a76 ((rowAt (enc xs k n) i).length) k77) (H.fc 1 rfl) ?_
            refine qP 1 [(9, .chn), (10, .qui)] [(15, .slice a14 ((headsOf (⟨1, 0, 0⟩) xs.length k (enc xs k n)).length) c15), (17, .I i), (18, .slice a28 ((rowAt (enc xs k n) i).length) c29), (20, .bool (anyB mk m)), (145, .agg #[.int .u64 (((hd1 xs k n i).id).version), .I (((hd1 xs k n i).id).index), .int .u64 (((hd1 xs k n i).id).epoch), .I ((hd1 xs k n i).kk), .I ((hd1 xs k n i).nn), .I ((hd1 xs k n i).size), .int .u32 ((((hd1 xs k n i).sum).toNat : Nat) : Int), .slice a76 ((rowAt (enc xs k n) i).length) k77, .bool false])] ?_
            refine qK .chn (some 146) [(10, .qui)] 43 #[.agg #[.int .u64 (((hd1 xs k n i).id).version), .I (((hd1 xs k n i).id).index), .int .u64 (((hd1 xs k n i).id).epoch), .I ((hd1 xs k n i).kk), .I ((hd1 xs k n i).nn), .I ((hd1 xs k n i).size), .int .u32 ((((hd1 xs k n i).sum).toNat : Nat) : Int), .slice a76 ((rowAt (enc xs k n) i).length) k77, .bool false]] (whole_spec (C := ⟨⟨((hd1 xs k n i).id), (hd1 xs k n i).kk, (hd1 xs k n i).nn, (hd1 xs k n i).size, (hd1 xs k n i).sum⟩, (rowAt (enc xs k n) i), false⟩) (chk_mk (hdr_mk (cid_mk u64a i64a u64a) i64a i64a i64a Shape.bv_mk) (H.rp 0 rfl) Shape.bool_mk)) ?_
            rintro _ w78 hE79 rfl
            have H := H.ext hE79
            refine qF 1 [(15, .slice a14 ((headsOf (⟨1, 0, 0⟩) xs.length k (enc xs k n)).length) c15), (17, .I i), (18, .slice a28 ((rowAt (enc xs k n) i).length) c29), (20, .bool (anyB mk m)), (22, .I (wholeE (⟨((hd1 xs k n i).id), (hd1 xs k n i).kk, (hd1 xs k n i).nn, (hd1 xs k n i).size, (hd1 xs k n i).sum⟩) (rowAt (enc xs k n) i)))] ?_
            refine qR 1 [.c [12, 0], .c [13]] [(15, .slice a14 ((headsOf (⟨1, 0, 0⟩) xs.length k (enc xs k n)).length) c15), (17, .I i), (18, .slice a28 ((rowAt (enc xs k n) i).length) c29), (20, .bool (anyB mk m)), (22, .I (wholeE (⟨((hd1 xs k n i).id), (hd1 xs k n i).kk, (hd1 xs k n i).nn, (hd1 xs k n i).size, (hd1 xs k n i).sum⟩) (rowAt (enc xs k n) i)))] ?_
            refine qG (sq 0 8) ?_
            refine qP 2 (sq 2 8) [(18, .slice a28 ((rowAt (enc xs k n) i).length) c29), (20, .bool (anyB mk m)), (22, .I (wholeE (⟨((hd1 xs k n i).id), (hd1 xs k n i).kk, (hd1 xs k n i).nn, (hd1 xs k n i).size, (hd1 xs k n i).sum⟩) (rowAt (enc xs k n) i))), (147, .slice a14 ((headsOf (⟨1, 0, 0⟩) xs.length k (enc xs k n)).length) c15), (148, .I i)] ?_
            have hx81 : i < (headsOf (⟨1, 0, 0⟩) xs.length k (enc xs k n)).length := by omega
            refine qX .seq 149 (sq 3 8) 28 53 (i : Int) hdrS (hd1 xs k n i) H 4 rfl i (by omega) (by rw [List.getElem?_eq_getElem (by omega), heads1_at hkn (by omega)]) ?_
            intro b82 o83 es84 hr85 H
            obtain ⟨cs0q86, rfl, hf87, hf88, hf89, hf90⟩ := hdr_open hr85
            obtain ⟨rfl, hf92, hf93, hf94⟩ := cid_open hf87
            refine qL .seq 150 (sq 4 8) 53 b82 o83 0 (.agg (hdrV (hd1 xs k n i)).toArray) (H.fc 0 rfl) ?_
            refine qP 2 (sq 6 8) [(20, .bool (anyB mk m)), (22, .I (wholeE (⟨((hd1 xs k n i).id), (hd1 xs k n i).kk, (hd1 xs k n i).nn, (hd1 xs k n i).size, (hd1 xs k n i).sum⟩) (rowAt (enc xs k n) i))), (152, .agg #[.int .u64 (((hd1 xs k n i).id).version), .I (((hd1 xs k n i).id).index), .int .u64 (((hd1 xs k n i).id).epoch), .I ((hd1 xs k n i).kk), .I ((hd1 xs k n i).nn), .I ((hd1 xs k n i).size), .int .u32 ((((hd1 xs k n i).sum).toNat : Nat) : Int), .slice a28 ((rowAt (enc xs k n) i).length) c29, .bool false])] ?_
            have H : Hp w S [] [] [] [Rp SB [.slice a28 ((rowAt (enc xs k n) i).length) c29] (turned (rowAt (enc xs k n) i) q mk m), Fc b82 o83 (hdrV (hd1 xs k n i)), Rp SB [.slice a76 ((rowAt (enc xs k n) i).length) k77] (rowAt (enc xs k n) i), Fc b72 o73 [.slice a76 ((rowAt (enc xs k n) i).length) k77], Fc b58 o59 (hdrV (hd1 xs k n i)), Rp SB [.slice a24 ((rowAt (enc xs k n) i).length) k25] (rowAt (enc xs k n) i), Rp (Shape.slice hdrS) [.slice a14 ((headsOf (⟨1, 0, 0⟩) xs.length k (enc xs k n)).length) c15] (headsOf (⟨1, 0, 0⟩) xs.length k (enc xs k n)), Rp (Shape.slice SB) [.slice a9 (enc xs k n).length c10] (enc xs k n), Rp SB [.slice a xs.length c] xs] _ := H.freezeW 0 rfl
            refine qK .seq (some 153) (sq 7 8) 43 #[.agg #[.int .u64 (((hd1 xs k n i).id).version), .I (((hd1 xs k n i).id).index), .int .u64 (((hd1 xs k n i).id).epoch), .I ((hd1 xs k n i).kk), .I ((hd1 xs k n i).nn), .I ((hd1 xs k n i).size), .int .u32 ((((hd1 xs k n i).sum).toNat : Nat) : Int), .slice a28 ((rowAt (enc xs k n) i).length) c29, .bool false]] (whole_spec (C := ⟨⟨((hd1 xs k n i).id), (hd1 xs k n i).kk, (hd1 xs k n i).nn, (hd1 xs k n i).size, (hd1 xs k n i).sum⟩, turned (rowAt (enc xs k n) i) q mk m, false⟩) (chk_mk (hdr_mk (cid_mk u64a i64a u64a) i64a i64a i64a Shape.bv_mk) (H.rp 0 rfl) Shape.bool_mk)) ?_
            rintro _ w95 hE96 rfl
            have H := H.ext hE96
            refine qF 1 [(20, .bool (anyB mk m)), (22, .I (wholeE (⟨((hd1 xs k n i).id), (hd1 xs k n i).kk, (hd1 xs k n i).nn, (hd1 xs k n i).size, (hd1 xs k n i).sum⟩) (rowAt (enc xs k n) i))), (23, .I (wholeE (⟨((hd1 xs k n i).id), (hd1 xs k n i).kk, (hd1 xs k n i).nn, (hd1 xs k n i).size, (hd1 xs k n i).sum⟩) (turned (rowAt (enc xs k n) i) q mk m)))] ?_
            refine qR 1 [.c [13, 0], .c [14]] [(20, .bool (anyB mk m)), (22, .I (wholeE (⟨((hd1 xs k n i).id), (hd1 xs k n i).kk, (hd1 xs k n i).nn, (hd1 xs k n i).size, (hd1 xs k n i).sum⟩) (rowAt (enc xs k n) i))), (23, .I (wholeE (⟨((hd1 xs k n i).id), (hd1 xs k n i).kk, (hd1 xs k n i).nn, (hd1 xs k n i).size, (hd1 xs k n i).sum⟩) (turned (rowAt (enc xs k n) i) q mk m)))] ?_
            refine qG (sq 0 12) ?_
            refine qP 3 (sq 3 12) [(20, .bool (anyB mk m)), (23, .I (wholeE (⟨((hd1 xs k n i).id), (hd1 xs k n i).kk, (hd1 xs k n i).nn, (hd1 xs k n i).size, (hd1 xs k n i).sum⟩) (turned (rowAt (enc xs k n) i) q mk m))), (156, .bool ((wholeE (⟨((hd1 xs k n i).id), (hd1 xs k n i).kk, (hd1 xs k n i).nn, (hd1 xs k n i).size, (hd1 xs k n i).sum⟩) (rowAt (enc xs k n) i)) == 0))] ?_
            refine tE (fun b_ => [(20, .bool (anyB mk m)), (23, .I (wholeE (⟨((hd1 xs k n i).id), (hd1 xs k n i).kk, (hd1 xs k n i).nn, (hd1 xs k n i).size, (hd1 xs k n i).sum⟩) (turned (rowAt (enc xs k n) i) q mk m))), (156, .bool b_)]) (wholeE (⟨((hd1 xs k n i).id), (hd1 xs k n i).kk, (hd1 xs k n i).nn, (hd1 xs k n i).size, (hd1 xs k n i).sum⟩) (rowAt (enc xs k n) i)) 0 (fun h98 => ?_) (fun h98 => ?_)
            ·
             refine qP 6 (sq 9 12) [(162, .bool (((wholeE (⟨((hd1 xs k n i).id), (hd1 xs k n i).kk, (hd1 xs k n i).nn, (hd1 xs k n i).size, (hd1 xs k n i).sum⟩) (turned (rowAt (enc xs k n) i) q mk m)) == 92) == (anyB mk m)))] ?_
             refine tE (fun b_ => [(162, .bool b_)]) ((wholeE (⟨((hd1 xs k n i).id), (hd1 xs k n i).kk, (hd1 xs k n i).nn, (hd1 xs k n i).size, (hd1 xs k n i).sum⟩) (turned (rowAt (enc xs k n) i) q mk m)) == 92) (anyB mk m) (fun h99 => ?_) (fun h99 => ?_)
             ·
              refine qK .seq (some 163) (sq 10 12) 28 #[] (heads_spec (S := fun _ => True)) ?_
              rintro _ w100 hE101 rfl
              have H := H.ext hE101
              refine qF 2 [(12, .bool true)] ?_
              refine qT (.bool true) Try.func11 ?_
              exact ⟨_, rfl, H.done, rfl⟩
             ·
              exact absurd (told_bad hk hkn (by omega) (by omega) (by omega) (by omega) (by omega)) h99
            ·
             exact absurd (told_good hk hkn (by omega) (by omega) (by omega)) h98


end Go.Proofs.Ytppcdmbkgficiaa
