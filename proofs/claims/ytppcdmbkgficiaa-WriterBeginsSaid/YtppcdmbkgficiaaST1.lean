import Derived.Test.YtppcdmbkgficiaaSBxA
import Derived.Test.YtppcdmbkgficiaaSP6
namespace Go.Proofs.Ytppcdmbkgficiaa
open Go.BX
theorem gen_get {k n x : Nat} (h : x < n) : (gen k n)[x]? = some (genRow k x) := by
 unfold gen
 rw [List.getElem?_map, List.getElem?_range h]
 rfl
theorem gexp_zero : gexp 0 = 1#8 := by decide +kernel
theorem xt_zero : xt 0#8 = 0#8 := by decide
theorem xt_gexp' (i : Nat) : xt (gexp i) = gexp (i + 1) := by
 rw [← gexp_mod i, xt_gexp (Nat.mod_lt _ (by omega)), ← gexp_mod (i % 255 + 1), ← gexp_mod (i + 1)]
 congr 1
 omega
theorem gm_xt : ∀ (n : Nat) (a b : BitVec 8), gm n (xt a) b = xt (gm n a b)
 | 0, _, _ => xt_zero.symm
 | n + 1, a, b => by
  show (if (((b &&& 1#8).toNat : Nat) : Int) > 0 then xt a else 0#8) ^^^ gm n (xt (xt a)) (b >>> 1) = xt ((if (((b &&& 1#8).toNat : Nat) : Int) > 0 then a else 0#8) ^^^ gm n (xt a) (b >>> 1))
  rw [xt_xor, gm_xt n]
  split
  · rfl
  · rw [xt_zero]
theorem gmul_xt (a b : BitVec 8) : gmul (xt a) b = xt (gmul a b) := gm_xt 8 a b
theorem one_gmul' : ∀ b < 256, gmul 1#8 (BitVec.ofNat 8 b) = BitVec.ofNat 8 b := by decide +kernel
theorem bv_of (b : BitVec 8) : b = BitVec.ofNat 8 b.toNat := by simp
theorem one_gmul (b : BitVec 8) : gmul 1#8 b = b := by
 have := one_gmul' b.toNat b.isLt
 rwa [← bv_of] at this
theorem gmul_gexp : ∀ i j : Nat, gmul (gexp i) (gexp j) = gexp (i + j)
 | 0, j => by rw [gexp_zero, one_gmul, Nat.zero_add]
 | i + 1, j => by
  rw [← xt_gexp' i, gmul_xt, gmul_gexp i j, xt_gexp']
  congr 1
  omega
theorem gexp_log' : ∀ b < 256, b ≠ 0 → gexp (glog (BitVec.ofNat 8 b)).toNat = BitVec.ofNat 8 b := by decide +kernel
theorem gexp_log {b : BitVec 8} (h : b ≠ 0#8) : gexp (glog b).toNat = b := by
 have a : b.toNat ≠ 0 := fun e => h (BitVec.eq_of_toNat_eq (by rw [e]; rfl))
 have := gexp_log' b.toNat b.isLt a
 rwa [← bv_of] at this
theorem gexp_ne' : ∀ i < 255, gexp i ≠ 0#8 := by decide +kernel
theorem gexp_ne (i : Nat) : gexp i ≠ 0#8 := by
 rw [← gexp_mod i]
 exact gexp_ne' _ (Nat.mod_lt _ (by omega))
theorem gmul_comm (a b : BitVec 8) : gmul a b = gmul b a := by
 by_cases ha : a = 0#8
 · rw [ha, gmul_zero_l, gmul_zero_r]
 · by_cases hb : b = 0#8
   · rw [hb, gmul_zero_l, gmul_zero_r]
   · rw [← gexp_log ha, ← gexp_log hb, gmul_gexp, gmul_gexp, Nat.add_comm]
theorem gmul_assoc (a b c : BitVec 8) : gmul (gmul a b) c = gmul a (gmul b c) := by
 by_cases ha : a = 0#8
 · rw [ha, gmul_zero_l, gmul_zero_l, gmul_zero_l]
 · by_cases hb : b = 0#8
   · simp only [hb, gmul_zero_l, gmul_zero_r]
   · by_cases hc : c = 0#8
     · rw [hc, gmul_zero_r, gmul_zero_r, gmul_zero_r]
     · rw [← gexp_log ha, ← gexp_log hb, ← gexp_log hc, gmul_gexp, gmul_gexp, gmul_gexp, gmul_gexp, Nat.add_assoc]
theorem gmul_xor_r (a b b' : BitVec 8) : gmul a (b ^^^ b') = gmul a b ^^^ gmul a b' := by
 rw [gmul_comm, gmul_xor, gmul_comm b, gmul_comm b']
theorem gmul_inv {b : BitVec 8} (h : b ≠ 0#8) : gmul b (ginv b) = 1#8 := by
 have a := (glog_nat (b := b) fun e => h (BitVec.eq_of_toNat_eq (by rw [show (0#8).toNat = 0 from rfl]; omega))).2
 conv => lhs; arg 1; rw [← gexp_log h]
 unfold ginv
 rw [gmul_gexp, show (glog b).toNat + (255 - (glog b).toNat) = 255 by omega, ← gexp_mod, show 255 % 255 = 0 from rfl, gexp_zero]
theorem ginv_ne (b : BitVec 8) : ginv b ≠ 0#8 := gexp_ne _
theorem gmul_ne {a b : BitVec 8} (ha : a ≠ 0#8) (hb : b ≠ 0#8) : gmul a b ≠ 0#8 := by
 rw [← gexp_log ha, ← gexp_log hb, gmul_gexp]
 exact gexp_ne _
theorem gmul_zero_iff {a b : BitVec 8} (h : gmul a b = 0#8) (hb : b ≠ 0#8) : a = 0#8 :=
 Classical.byContradiction fun ha => gmul_ne ha hb h
def sumN : Nat → (Nat → BitVec 8) → BitVec 8
 | 0, _ => 0#8
 | n + 1, f => sumN n f ^^^ f n
theorem sumN_congr {f g : Nat → BitVec 8} : ∀ {n : Nat}, (∀ i < n, f i = g i) → sumN n f = sumN n g
 | 0, _ => rfl
 | n + 1, h => by rw [sumN, sumN, sumN_congr (n := n) fun i hi => h i (by omega), h n (by omega)]
theorem sumN_xor (f g : Nat → BitVec 8) : ∀ n : Nat, sumN n (fun i => f i ^^^ g i) = sumN n f ^^^ sumN n g
 | 0 => BitVec.xor_self.symm
 | n + 1 => by
  rw [sumN, sumN, sumN, sumN_xor f g n]
  ac_rfl
theorem sumN_mul (f : Nat → BitVec 8) (c : BitVec 8) : ∀ n : Nat, sumN n (fun i => gmul (f i) c) = gmul (sumN n f) c
 | 0 => (gmul_zero_l c).symm
 | n + 1 => by rw [sumN, sumN, sumN_mul f c n, gmul_xor]
def dot (k : Nat) (r v : Nat → BitVec 8) : BitVec 8 := sumN k fun j => gmul (v j) (r j)
theorem dot_congr {k : Nat} {r r' v v' : Nat → BitVec 8} (h : ∀ j < k, r j = r' j) (h2 : ∀ j < k, v j = v' j) : dot k r v = dot k r' v' :=
 sumN_congr fun j hj => by rw [h j hj, h2 j hj]
theorem dot_mix (k : Nat) (r s v : Nat → BitVec 8) (c : BitVec 8) : dot k (fun j => r j ^^^ gmul (s j) c) v = dot k r v ^^^ gmul (dot k s v) c := by
 unfold dot
 rw [← sumN_mul, ← sumN_xor]
 exact sumN_congr fun j _ => by rw [gmul_xor_r, gmul_assoc]
theorem dot_scale (k : Nat) (s v : Nat → BitVec 8) (c : BitVec 8) : dot k (fun j => gmul (s j) c) v = gmul (dot k s v) c := by
 unfold dot
 rw [← sumN_mul]
 exact sumN_congr fun j _ => by rw [gmul_assoc]
abbrev Mx := Nat → Nat → BitVec 8
structure GJ (k : Nat) (A L R : Mx) (m : Nat) : Prop where
 fwd : ∀ d p : Nat → BitVec 8, (∀ i < k, dot k (A i) d = p i) → ∀ i < k, dot k (L i) d = dot k (R i) p
 ker : ∀ v : Nat → BitVec 8, (∀ i < k, dot k (L i) v = 0#8) → ∀ i < k, dot k (A i) v = 0#8
 unit : ∀ c < m, ∀ i < k, L i c = if i = c then 1#8 else 0#8
theorem GJ.congr {k m : Nat} {A L R L' R' : Mx} (h : GJ k A L R m) (hL : ∀ i < k, ∀ j < k, L' i j = L i j) (hR : ∀ i < k, ∀ j < k, R' i j = R i j) (hm : m ≤ k) : GJ k A L' R' m where
 fwd d p h1 i hi := by rw [dot_congr (hL i hi) fun _ _ => rfl, dot_congr (hR i hi) fun _ _ => rfl]; exact h.fwd d p h1 i hi
 ker v h1 := h.ker v fun i hi => by rw [← h1 i hi]; exact dot_congr (fun j hj => (hL i hi j hj).symm) fun _ _ => rfl
 unit c hc i hi := by rw [hL i hi c (by omega)]; exact h.unit c hc i hi
def swp (a b i : Nat) : Nat := if i = a then b else if i = b then a else i
theorem swp_lt {a b i k : Nat} (ha : a < k) (hb : b < k) (hi : i < k) : swp a b i < k := by
 unfold swp; split
 · exact hb
 · split
   · exact ha
   · exact hi
theorem swp_swp (a b i : Nat) : swp a b (swp a b i) = i := by
 unfold swp
 by_cases h1 : i = a
 · rw [if_pos h1]
   by_cases h2 : b = a
   · rw [if_pos h2]; omega
   · rw [if_neg h2, if_pos rfl]; omega
 · rw [if_neg h1]
   by_cases h2 : i = b
   · rw [if_pos h2, if_pos rfl]; omega
   · rw [if_neg h2, if_neg h1, if_neg h2]
theorem GJ.swap {k m a : Nat} {A L R : Mx} (h : GJ k A L R m) (ha : a < k) (hma : m ≤ a) : GJ k A (fun i => L (swp a m i)) (fun i => R (swp a m i)) m where
 fwd d p h1 i hi := h.fwd d p h1 _ (swp_lt ha (by omega) hi)
 ker v h1 := h.ker v fun i hi => by
  have := h1 (swp a m i) (swp_lt ha (by omega) hi)
  simp only [swp_swp] at this
  exact this
 unit c hc i hi := by
  rw [h.unit c hc _ (swp_lt ha (by omega) hi)]
  by_cases h2 : i = c
  · have : swp a m i = i := by unfold swp; rw [if_neg (by omega), if_neg (by omega)]
    rw [this]
  · rw [if_neg h2, if_neg]
    unfold swp
    split
    · omega
    · split <;> omega
theorem GJ.clear {k m : Nat} {A L R : Mx} (h : GJ k A L R m) (hm : m < k) (hp : L m m ≠ 0#8) :
 GJ k A (fun i j => if i = m then gmul (L m j) (ginv (L m m)) else L i j ^^^ gmul (gmul (L m j) (ginv (L m m))) (L i m)) (fun i j => if i = m then gmul (R m j) (ginv (L m m)) else R i j ^^^ gmul (gmul (R m j) (ginv (L m m))) (L i m)) (m + 1) where
 fwd d p h1 i hi := by
  have a := h.fwd d p h1 m hm
  have b := h.fwd d p h1 i hi
  by_cases him : i = m
  · simp only [him, if_true]
    rw [dot_scale, dot_scale, a]
  · simp only [him, if_false]
    rw [dot_mix, dot_mix, dot_scale, dot_scale, a, b]
 ker v h1 := h.ker v fun i hi => by
  have a := h1 m hm
  simp only [if_true] at a
  rw [dot_scale] at a
  have f := gmul_zero_iff a (ginv_ne _)
  by_cases him : i = m
  · rw [him]; exact f
  · have b := h1 i hi
    simp only [him, if_false] at b
    rw [dot_mix, dot_scale, f, gmul_zero_l, gmul_zero_l, BitVec.xor_zero] at b
    exact b
 unit c hc i hi := by
  by_cases hcm : c = m
  · rw [hcm]
    by_cases him : i = m
    · simp only [him, if_true]
      exact gmul_inv hp
    · simp only [him, if_false]
      rw [gmul_inv hp, one_gmul, BitVec.xor_self]
  · have e := h.unit c (by omega) m hm
    rw [if_neg (by omega)] at e
    by_cases him : i = m
    · simp only [him, if_true]
      rw [e, gmul_zero_l, if_neg (by omega)]
    · simp only [him, if_false]
      rw [e, gmul_zero_l, gmul_zero_l, BitVec.xor_zero]
      exact h.unit c (by omega) i hi
structure RG (k : Nat) (A : List (List (BitVec 8))) (s : Nat × List (List (BitVec 8)) × List (List (BitVec 8))) (m : Nat) : Prop where
 dn : s.1 = m
 l1 : s.2.1.length = k
 l2 : s.2.2.length = k
 c1 : ∀ x ∈ s.2.1, x.length = k
 c2 : ∀ x ∈ s.2.2, x.length = k
 gj : GJ k (entAt A) (entAt s.2.1) (entAt s.2.2) m
theorem genE_par {k i j : Nat} (hi : k ≤ i) : genE k i j = ginv (BitVec.ofNat 8 i ^^^ BitVec.ofNat 8 j) := if_pos hi
structure Of (xs : List (BitVec 8)) (k n : Nat) (ys : List Pc) : Prop where
 nd : (ys.map Pc.index).Nodup
 rng : ∀ p ∈ ys, 0 ≤ p.index ∧ p.index < (n : Int)
 dat : ∀ p ∈ ys, p.data = rowAt (enc xs k n) p.index.toNat
theorem Of.take {xs : List (BitVec 8)} {k n : Nat} {ys : List Pc} (h : Of xs k n ys) (m : Nat) : Of xs k n (ys.take m) :=
 ⟨((List.take_sublist _ _).map _).nodup h.nd, fun p hq => h.rng p (List.mem_of_mem_take hq), fun p hq => h.dat p (List.mem_of_mem_take hq)⟩
theorem Of.ok {xs : List (BitVec 8)} {k n : Nat} {ys : List Pc} (h : Of xs k n ys) (hk : 0 < k) (hkn : k ≤ n) : PsOk ys n (lenOf xs.length k) where
 nd := h.nd
 rng := h.rng
 len p hp := by
  have hr := h.rng p hp
  rw [h.dat p hp, rowAt_eq (by rw [enc_len hkn]; omega)]
  have e : ∀ d ∈ enc xs k n, d.length = lenOf xs.length k := by
   intro d hd
   unfold enc at hd
   rcases List.mem_append.1 hd with h | h
   · exact dataOf_all _ _ _ d h
   · obtain ⟨j, _, rfl⟩ := List.mem_map.1 h
     exact mixAll_len List.length_replicate (dataOf_all _ _ _)
  exact e _ (List.getElem_mem _)
end Go.Proofs.Ytppcdmbkgficiaa
