import Derived.Test.YtppcdmbkgficiaaSBxA
import Derived.Test.YtppcdmbkgficiaaSK4
import Derived.Test.YtppcdmbkgficiaaSE3
namespace Go.Proofs.Ytppcdmbkgficiaa
open Go.BX
theorem r4dat_take {ys : List Pc} {k n l t j : Nat} (hqt : ys.take k = ys) (hk : k ≤ ys.length) (ht : t < k) (hj : k ≤ j) :
 (datL ys k n l).take t ++ [mixAll ((rowAt (invM ys k n) t).take j) (ys.map Pc.data) (List.replicate l (0#8 : BitVec 8))] = (datL ys k n l).take (t + 1) := by
 have hl := invM_len (n := n) hk
 have a : t < (invM ys k n).length := by omega
 have hr := invM_all (n := n) hk ((invM ys k n)[t]) (List.getElem_mem a)
 rw [← datL_take hk a, hqt, rowAt_eq a, List.take_of_length_le (l := (invM ys k n)[t]) (i := j) (by omega)]
theorem r1mix_n {S : Nat → Prop} {w : World} {xs ys : List (BitVec 8)} {a a2 : Option Addr} {k k2 n : Nat} (c : BitVec 8) (hn : xs.length = n) (h : SB.rep S w [.slice a n k] xs) (h2 : SB.rep S w [.slice a2 ys.length k2] ys) (hl : xs.length = ys.length) (hby : xs.length ≤ 140737488355328) :
 Calls Try.prog 73 #[.slice a n k, .slice a2 ys.length k2, .int .u8 ((c.toNat : Nat) : Int)] w (Ret fun v w' => Ext w w' ∧ ∃ (a' : Option Addr) (c' : Nat), v = .tuple #[.slice a' (mixL xs ys c).length c', .I 0] ∧ SB.rep (Nw S w) w' [.slice a' (mixL xs ys c).length c'] (mixL xs ys c)) := by
 subst hn
 exact r1mix_spec c h h2 hl hby
theorem r4data_spec {S : Nat → Prop} {w : World} {pq : List Pc} {a : Option Addr} {c : Nat} (h : (Shape.slice pcS).rep S w [.slice a pq.length c] pq) {k n l : Nat} (hk : 1 ≤ k) (hkn : k ≤ n) (hn : n ≤ 255) (hl : l ≤ 65536) (hql : pq.length = k) (hqd : ∀ p ∈ pq, p.data.length = l) (hqr : ∀ p ∈ pq, 0 ≤ p.index ∧ p.index < (n : Int)) (hreg : (redTo (subM pq k n) (ident k) k).1 = k) :
 Calls Try.prog 77 #[.slice a pq.length c, .I k, .I n] w (Ret fun v w' => Ext w w' ∧ ∃ (a : Option Addr) (c : Nat), v = .slice a (datL pq k n l).length c ∧ (Shape.slice SB).rep (Nw S w) w' [.slice a (datL pq k n l).length c] (datL pq k n l)) := by
 refine uS1 Try.func77 ?_
 have H := Hp.startF (.rp h .nil)
 refine uR 3 [.c [1, 0], .c [2]] ?_
 refine qG (sq 0 8) ?_
 refine uP 2 ?_
 refine uK (rgen_spec (S := Av S w [] (idsOf [] [])) k n (by omega) (by omega) (by omega)) ?_
 rintro _ _ i0 ⟨P, Q, rfl, j0⟩
 have H := H.addM i0 j0
 refine uF 5 ?_
 refine uR 6 [.c [3, 0, 1, 0], .b 0, .c [4]] ?_
 have H := H.ownNil (Shape.int .i64) 3
 have H : Hp w S [] [] [⟨Shape.int .i64, 3, .slice none ((([] : List Pc).map Pc.index).length) 0, ([] : List Pc).map Pc.index⟩] [_, _] _ := H
 have H := H.drop (M' := []) (W' := [⟨Shape.int .i64, 3, .slice none (((pq.take 0).map Pc.index).length) 0, (pq.take 0).map Pc.index⟩]) (by repeat (first | exact List.Sublist.refl _ | exact List.nil_sublist _ | apply List.Sublist.cons_cons | apply List.Sublist.cons)) (by repeat (first | exact List.Sublist.refl _ | exact List.nil_sublist _ | apply List.Sublist.cons_cons | apply List.Sublist.cons))
 refine uL (α := Nat × Option Addr × Nat) (g := 77) (p := [3, 0, 1, 0, 0]) (fun (i, ra, rc) => [(0, .slice a pq.length c), (1, .I k), (7, .slice P (gen k n).length Q), (9, .slice ra (((pq.take i).map Pc.index).length) rc), (10, .I i)]) (fun (i, ra, rc) w' => Hp w S [] [] [⟨Shape.int .i64, 3, .slice ra (((pq.take i).map Pc.index).length) rc, (pq.take i).map Pc.index⟩] [Rp (Shape.slice SB) [.slice P (gen k n).length Q] (gen k n), Rp (Shape.slice pcS) [.slice a pq.length c] pq] w' ∧ i ≤ pq.length) (fun (i, ra, rc) => pq.length - i) (0, none, 0) ⟨H, Nat.zero_le _⟩ ?_
 rintro ⟨i, ra, rc⟩ _ ⟨H, _⟩ z
 refine qR 3 [.c [3, 0, 1, 0, 0, 0, 1], .c [3, 0, 1, 0, 0, 1], .l [3, 0, 1, 0, 0], .b 0, .c [4]] [(0, .slice a pq.length c), (1, .I k), (7, .slice P (gen k n).length Q), (9, .slice ra (((pq.take i).map Pc.index).length) rc), (10, .I i), (27, .bool (decide (((i : Int) : Int) < (k : Int))))] ?_
 refine qD (((i : Int) : Int) < (k : Int)) (fun h8 => ?_) (fun h8 => ?_)
 ·
  refine uR 3 [.c [3, 0, 1, 0, 0, 1, 0, 0], .b 1, .c [3, 0, 1, 0, 0, 2], .l [3, 0, 1, 0, 0], .b 0, .c [4]] ?_
  refine qG (sq 0 9) ?_
  refine uP 3 ?_
  have k0 : i < pq.length := by omega
  refine uX 70 (i : Int) H 1 rfl i (by omega) (List.getElem?_eq_getElem k0) ?_
  intro l0 m0 _ R H
  obtain ⟨E, F, rfl, _, U⟩ := pc_open R
  have H := H.addR U
  refine uP 1 ?_
  refine uV 3 0 (H.fc 1 rfl) ?_
  refine RW.new (κ := .seq) (d := some 36) (r := (sq 7 9)) (o := .cells #[.I ((pq[i]).index)] 3 (0, 0)) (v := fun b => .slice (some ⟨b, 0, none⟩) 1 1) (fun b => by as_aux_lemma => kernel_rfl) (nofun) H ?_
  intro n0 _ H
  have H := H.freeze 0 rfl (Shape.int .i64) ([(pq[i]).index] : List Int) 1 (by simp [maxLen]) (by first | exact Nat.le_refl _ | simp) (EsP.cons (c := [.I ((pq[i]).index)]) i64a EsP.nil)
  have H : Hp w S [] [] [_] [Rp (Shape.slice (Shape.int .i64)) [.slice (some ⟨n0, 0, none⟩) 1 1] ([(pq[i]).index] : List Int), _, Fc l0 m0 [.I ((pq[i]).index), .slice E ((pq[i]).data.length) F], _, _] _ := H
  refine uA 25 25 8 ((pq.take (i + 1)).map Pc.index) H 0 rfl 0 rfl (map_take_snoc _ (by omega)) (by rw [List.length_map, List.length_take]; omega) ?_
  intro K L _ H _
  have H : Hp w S [] [] [⟨Shape.int .i64, 3, .slice K (((pq.take (i + 1)).map Pc.index).length) L, (pq.take (i + 1)).map Pc.index⟩] [_, _, _, _, _] _ := H
  refine uF 1 ?_
  refine uR 1 [.c [3, 0, 1, 0, 0, 2], .l [3, 0, 1, 0, 0], .b 0, .c [4]] ?_
  refine qG (sq 0 3) ?_
  refine uP 1 ?_
  refine uI ((i : Int) + 1) ?_
  refine uF 1 ?_
  have H := H.pick [3, 4] rfl
  exact uB (z (i + 1, K, L) _ ⟨H, by omega⟩ (by first | omega | (simp only []; omega)))
 ·
  have hie : i = pq.length := by omega
  rw [hie, List.take_length] at H ⊢
  have hgl := gen_len k n
  have hga := gen_all k n
  have hqt : pq.take k = pq := List.take_of_length_le (by omega)
  have hsub : pickL (gen k n) (pq.map Pc.index) = subM pq k n := by unfold subM; rw [hqt]
  have hrows : ∀ x ∈ pq.map Pc.index, 0 ≤ x ∧ x < ((gen k n).length : Int) := fun x hx => by
   obtain ⟨p, hp, rfl⟩ := List.mem_map.1 hx
   rw [hgl]
   exact hqr p hp
  have hrl : (pq.map Pc.index).length = k := by rw [List.length_map]; exact hql
  have hsl := subM_len (n := n) (show k ≤ pq.length by omega)
  have hsa : ∀ x ∈ subM pq k n, x.length = k := hsub ▸ pickL_all hga hrows
  have hil := invM_len (n := n) (show k ≤ pq.length by omega)
  have hia := invM_all (n := n) (show k ≤ pq.length by omega)
  have hda : ∀ d ∈ pq.map Pc.data, d.length = l := fun d hd => by
   obtain ⟨p, hp, rfl⟩ := List.mem_map.1 hd
   exact hqd p hp
  have H : Hp w S [] [] [⟨Shape.int .i64, 3, .slice ra (pq.map Pc.index).length rc, pq.map Pc.index⟩] [_, _] _ := H
  refine uR 2 [.c [4, 0], .c [5]] ?_
  refine qG (sq 0 8) ?_
  refine uP 2 ?_
  have H : Hp w S [] [] [] [Rp (Shape.slice (Shape.int .i64)) [.slice ra (pq.map Pc.index).length rc] (pq.map Pc.index), _, _] _ := H.freezeW 0 rfl
  have o0 := H.rp 1 rfl
  have p0 := H.rp 0 rfl
  have q0 := r2pick_spec (S := Av S w [] (idsOf [] [])) (m := gen k n) o0 (rows := pq.map Pc.index) p0 (by omega) (c := k) hga (by omega) (by omega) hrows
  refine uK q0 ?_
  rintro _ _ V ⟨r0, s0, rfl, A⟩
  rw [hsub] at A ⊢
  have H := H.addM V A
  refine uF 5 ?_
  refine qR 1 [.c [5, 0], .c [6]] [(0, .slice a pq.length c), (1, .I k), (11, .slice r0 (subM pq k n).length s0)] ?_
  refine qG (sq 0 7) ?_
  refine uP 1 ?_
  refine uK (r2invert_spec (m := subM pq k n) (H.rp 0 rfl) (by omega) (by rw [hsl]; exact hsa) (by rw [hsl]; exact hreg)) ?_
  rintro _ _ W ⟨f, q, rfl, B⟩
  rw [show (redTo (subM pq k n) (ident (subM pq k n).length) (subM pq k n).length).2.2 = invM pq k n by rw [hsl]; rfl, show (subM pq k n).length = (invM pq k n).length by rw [hsl, hil]] at B
  rw [show (Value.slice f (subM pq k n).length q) = .slice f (invM pq k n).length q by rw [hsl, hil]]
  have H := H.addM W B
  refine uF 5 ?_
  refine uR 6 [.c [7, 0, 1, 0], .b 2, .c [8]] ?_
  have H := H.ownNil SB 23
  have H : Hp w S [] [] [⟨SB, 23, .slice none (((datL pq k n l).take 0).length) 0, (datL pq k n l).take 0⟩] [_, _, _, _, _] _ := H
  have H := H.pick [0, 4] rfl
  refine uL (α := Nat × Option Addr × Nat) (g := 77) (p := [7, 0, 1, 0, 0]) (fun (t, ao, co) => [(0, .slice a pq.length c), (1, .I k), (13, .slice f (invM pq k n).length q), (15, .slice ao (((datL pq k n l).take t).length) co), (16, .I t)]) (fun (t, ao, co) w' => Hp w S [] [] [⟨SB, 23, .slice ao (((datL pq k n l).take t).length) co, (datL pq k n l).take t⟩] [Rp (Shape.slice SB) [.slice f (invM pq k n).length q] (invM pq k n), Rp (Shape.slice pcS) [.slice a pq.length c] pq] w' ∧ t ≤ k) (fun (t, ao, co) => k - t) (0, none, 0) ⟨H, Nat.zero_le _⟩ ?_
  rintro ⟨t, ao, co⟩ _ ⟨H, _⟩ u
  refine uR 3 [.c [7, 0, 1, 0, 0, 0, 1], .c [7, 0, 1, 0, 0, 1], .l [7, 0, 1, 0, 0], .b 2, .c [8]] ?_
  refine qD (((t : Int) : Int) < (k : Int)) (fun t0 => ?_) (fun t0 => ?_)
  ·
   have C0 := hqd (pq[0]) (List.getElem_mem (by omega))
   refine uR 4 [.c [7, 0, 1, 0, 0, 1, 0, 0, 0], .c [7, 0, 1, 0, 0, 1, 0, 0, 1], .b 3, .c [7, 0, 1, 0, 0, 2], .l [7, 0, 1, 0, 0], .b 2, .c [8]] ?_
   refine qG (sq 0 7) ?_
   refine uP 1 ?_
   have X : 0 < pq.length := by omega
   refine uX 70 0 H 1 rfl 0 (by omega) (List.getElem?_eq_getElem X) ?_
   intro u0 w0 _ Y H
   obtain ⟨G, J, rfl, _, Z⟩ := pc_open Y
   have H := H.addR Z
   refine uP 1 ?_
   refine uV 23 1 (H.fc 1 rfl) ?_
   refine uP 1 ?_
   refine RW.makeW Sb (κ := .seq) (d := some 59) (r := (sq 6 7)) (T := 23) (e := 5) (by_ := 1) (v0 := .int .u8 0) (0#8 : BitVec 8) (kl := .i64) (kc := .i64) (lv := (((pq[0]).data.length : Nat) : Int)) (cv := (((pq[0]).data.length : Nat) : Int)) (by as_aux_lemma => kernel_rfl) (nofun) (by as_aux_lemma => kernel_rfl) rfl H l l (by omega) (by omega) (by omega) (by omega) (by omega) (fun _ _ => rfl) ?_
   intro s _ H
   have H : Hp w S [] [] [⟨Sb, 5, .slice (some ⟨s, 0, none⟩) l l, (List.replicate l (0#8 : BitVec 8))⟩, _] [_, Fc u0 w0 [.I ((pq[0]).index), .slice G ((pq[0]).data.length) J], _, _] _ := H
   refine uF 1 ?_
   refine uR 4 [.c [7, 0, 1, 0, 0, 1, 0, 0, 1, 0, 1, 0], .b 4, .c [7, 0, 1, 0, 0, 1, 0, 0, 2], .b 3, .c [7, 0, 1, 0, 0, 2], .l [7, 0, 1, 0, 0], .b 2, .c [8]] ?_
   have H : Hp w S [] [] [_] [Rp SB [.slice (some ⟨s, 0, none⟩) l l] (List.replicate l (0#8 : BitVec 8)), _, _, _, _] _ := H.freezeW 0 rfl
   have hrw : (rowAt (invM pq k n) t) = (invM pq k n)[t]'(by omega) := rowAt_eq (by omega)
   have B0 := hia ((invM pq k n)[t]'(by omega)) (List.getElem_mem _)
   have H : Hp w S [] [] [_] [Rp SB [.slice (some ⟨s, 0, none⟩) l l] (mixAll ((rowAt (invM pq k n) t).take 0) (pq.map Pc.data) (List.replicate l (0#8 : BitVec 8))), _, _, _, _] _ := H
   have H := H.pick [0, 3, 4] rfl
   refine uL (α := Nat × Option Addr × Nat) (g := 77) (p := [7, 0, 1, 0, 0, 1, 0, 0, 1, 0, 1, 0, 0]) (fun (j, ta, tc) => [(0, .slice a pq.length c), (1, .I k), (13, .slice f (invM pq k n).length q), (15, .slice ao (((datL pq k n l).take t).length) co), (16, .I t), (17, .slice ta l tc), (18, .I j)]) (fun (j, ta, tc) w' => Hp w S [] [] [⟨SB, 23, .slice ao (((datL pq k n l).take t).length) co, (datL pq k n l).take t⟩] [Rp SB [.slice ta l tc] (mixAll ((rowAt (invM pq k n) t).take j) (pq.map Pc.data) (List.replicate l (0#8 : BitVec 8))), Rp (Shape.slice SB) [.slice f (invM pq k n).length q] (invM pq k n), Rp (Shape.slice pcS) [.slice a pq.length c] pq] w' ∧ j ≤ k) (fun (j, ta, tc) => k - j) (0, (some ⟨s, 0, none⟩), l) ⟨H, Nat.zero_le _⟩ ?_
   rintro ⟨j, ta, tc⟩ M ⟨H, _⟩ y
   refine uR 3 [.c [7, 0, 1, 0, 0, 1, 0, 0, 1, 0, 1, 0, 0, 0, 1], .c [7, 0, 1, 0, 0, 1, 0, 0, 1, 0, 1, 0, 0, 1], .l [7, 0, 1, 0, 0, 1, 0, 0, 1, 0, 1, 0, 0], .b 4, .c [7, 0, 1, 0, 0, 1, 0, 0, 2], .b 3, .c [7, 0, 1, 0, 0, 2], .l [7, 0, 1, 0, 0], .b 2, .c [8]] ?_
   refine qD (((j : Int) : Int) < (k : Int)) (fun x0 => ?_) (fun x0 => ?_)
   ·
    have hdj := hqd (pq[j]) (List.getElem_mem (by omega))
    refine uR 3 [.c [7, 0, 1, 0, 0, 1, 0, 0, 1, 0, 1, 0, 0, 1, 0, 0], .b 5, .c [7, 0, 1, 0, 0, 1, 0, 0, 1, 0, 1, 0, 0, 2], .l [7, 0, 1, 0, 0, 1, 0, 0, 1, 0, 1, 0, 0], .b 4, .c [7, 0, 1, 0, 0, 1, 0, 0, 2], .b 3, .c [7, 0, 1, 0, 0, 2], .l [7, 0, 1, 0, 0], .b 2, .c [8]] ?_
    refine WK.draw1 18 [(0, .qui), (1, .qui), (2, .qui), (3, .qui), (4, .qui), (5, .qui), (6, .qui), (7, .qui), (8, .qui), (9, .qui), (10, .qui), (11, .qui), (12, .qui), (13, .chn), (14, .qui), (15, .qui), (16, .qui), (17, .qui)] [(0, .qui), (1, .qui), (2, .qui), (3, .qui), (4, .qui), (5, .qui), (6, .qui), (7, .qui), (8, .qui), (9, .qui), (10, .qui), (11, .qui), (12, .qui), (13, .chn), (14, .qui), (15, .qui), (16, .qui), (17, .qui)] Try_mixed (by as_aux_lemma => kernel_rfl) (by as_aux_lemma => kernel_rfl) (by as_aux_lemma => kernel_rfl) ?_
    have H := H.draw
    generalize ({ M with drawn := M.drawn + 1 } : World) = D0 at H ⊢
    refine uP 3 ?_
    have a0 : j < pq.length := by omega
    refine uX 70 (j : Int) H 2 rfl j (by omega) (List.getElem?_eq_getElem a0) ?_
    intro _ _ _ b0 H
    obtain ⟨_, _, rfl, _, c0⟩ := pc_open b0
    have H := H.addR c0
    refine uP 1 ?_
    refine uV 23 1 (H.fc 1 rfl) ?_
    refine uP 2 ?_
    have d0 : t < (invM pq k n).length := by omega
    refine uX 29 (t : Int) H 3 rfl t (by omega) (List.getElem?_eq_getElem d0) ?_
    intro _ _ _ C H
    obtain ⟨_, _, rfl⟩ := Shape.slice_form' C
    have H := H.addR C
    refine uV 23 0 (H.fc 1 rfl) ?_
    refine uP 1 ?_
    have e0 : j < ((invM pq k n)[t]).length := by omega
    refine uX 23 (j : Int) H 0 rfl j (by omega) (List.getElem?_eq_getElem e0) ?_
    intro _ _ _ f0 H
    obtain rfl := f0
    refine uV 5 0 (H.fc 0 rfl) ?_
    have hmx := mixAll_len (row := (rowAt (invM pq k n) t).take j) (ds := (pq.map Pc.data)) (acc := (List.replicate l (0#8 : BitVec 8))) (l := l) List.length_replicate hda
    have g0 := mixAll_len (row := (rowAt (invM pq k n) t).take (j + 1)) (ds := (pq.map Pc.data)) (acc := (List.replicate l (0#8 : BitVec 8))) (l := l) List.length_replicate hda
    have hmt := mixAll_take (row := (rowAt (invM pq k n) t)) (ds := (pq.map Pc.data)) (acc := (List.replicate l (0#8 : BitVec 8))) (j := j) (by rw [hrw]; exact List.getElem?_eq_getElem (by omega)) (by rw [List.getElem?_map, List.getElem?_eq_getElem (show j < pq.length by omega)]; rfl)
    refine uK (r1mix_n (xs := (mixAll ((rowAt (invM pq k n) t).take j) (pq.map Pc.data) (List.replicate l (0#8 : BitVec 8)))) (ys := (pq[j]).data) (((invM pq k n)[t])[j]) hmx (H.rp 5 rfl) (H.rp 3 rfl) (by rw [hmx]; exact hdj.symm) (by omega)) ?_
    rintro _ _ h0 ⟨y0, z0, rfl, D⟩
    rw [← hmt, g0] at D ⊢
    have H := H.addM h0 D
    refine uF 4 ?_
    refine uR 1 [.c [7, 0, 1, 0, 0, 1, 0, 0, 1, 0, 1, 0, 0, 2], .l [7, 0, 1, 0, 0, 1, 0, 0, 1, 0, 1, 0, 0], .b 4, .c [7, 0, 1, 0, 0, 1, 0, 0, 2], .b 3, .c [7, 0, 1, 0, 0, 2], .l [7, 0, 1, 0, 0], .b 2, .c [8]] ?_
    refine qG (sq 0 3) ?_
    refine uP 1 ?_
    refine uI ((j : Int) + 1) ?_
    refine uF 1 ?_
    have H := H.pick [0, 7, 8] rfl
    exact uB (y (j + 1, y0, z0) _ ⟨H, by omega⟩ (by first | omega | (simp only []; omega)))
   ·
    refine qR 1 [.c [7, 0, 1, 0, 0, 1, 0, 0, 2], .b 3, .c [7, 0, 1, 0, 0, 2], .l [7, 0, 1, 0, 0], .b 2, .c [8]] [(0, .slice a pq.length c), (1, .I k), (13, .slice f (invM pq k n).length q), (15, .slice ao (((datL pq k n l).take t).length) co), (16, .I t), (17, .slice ta l tc)] ?_
    refine qG (sq 0 5) ?_
    refine uP 2 ?_
    refine RW.new (κ := .seq) (d := some 84) (r := (sq 3 5)) (o := .cells #[.slice ta l tc] 23 (0, 0)) (v := fun b => .slice (some ⟨b, 0, none⟩) 1 1) (fun b => by as_aux_lemma => kernel_rfl) (nofun) H ?_
    intro A0 _ H
    have H := H.freeze 0 rfl SB ([(mixAll ((rowAt (invM pq k n) t).take j) (pq.map Pc.data) (List.replicate l (0#8 : BitVec 8)))] : List (List (BitVec 8))) 1 (by simp [maxLen]) (by first | exact Nat.le_refl _ | simp) (EsP.cons (c := [.slice ta l tc]) (H.rp 0 rfl) EsP.nil)
    have H : Hp w S [] [] [_] [Rp (Shape.slice SB) [.slice (some ⟨A0, 0, none⟩) 1 1] ([(mixAll ((rowAt (invM pq k n) t).take j) (pq.map Pc.data) (List.replicate l (0#8 : BitVec 8)))] : List (List (BitVec 8))), _, _, _] _ := H
    refine uA 29 29 24 ((datL pq k n l).take (t + 1)) H 0 rfl 0 rfl (r4dat_take hqt (by omega) (by omega) (by omega)) (by rw [List.length_take, datL_len (by omega)]; omega) ?_
    intro N O _ H _
    have H : Hp w S [] [] [⟨SB, 23, .slice N (((datL pq k n l).take (t + 1)).length) O, (datL pq k n l).take (t + 1)⟩] [_, _, _, _] _ := H
    refine uF 1 ?_
    refine uR 1 [.c [7, 0, 1, 0, 0, 2], .l [7, 0, 1, 0, 0], .b 2, .c [8]] ?_
    refine qG (sq 0 3) ?_
    refine uP 1 ?_
    refine uI ((t : Int) + 1) ?_
    refine uF 1 ?_
    have H := H.pick [2, 3] rfl
    exact uB (u (t + 1, N, O) _ ⟨H, by omega⟩ (by first | omega | (simp only []; omega)))
  ·
   refine uR 3 [.c [9]] ?_
   refine qT (.slice ao (((datL pq k n l).take t).length) co) Try.func77 ?_
   have H : Hp w S [] [] [] [Rp (Shape.slice SB) [.slice ao (((datL pq k n l).take t).length) co] ((datL pq k n l).take t), _, _] _ := H.freezeW 0 rfl
   have hte : t = k := by omega
   rw [List.take_of_length_le (by rw [datL_len (by omega)]; omega)] at H ⊢
   exact ⟨_, rfl, H.done, _, _, rfl, H.out (H.rp 0 rfl)⟩
end Go.Proofs.Ytppcdmbkgficiaa
