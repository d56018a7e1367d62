import Derived.Test.YtppcdmbkgficiaaSBxA
import Derived.Test.YtppcdmbkgficiaaSK6
import Derived.Test.YtppcdmbkgficiaaSE6
import Derived.Test.YtppcdmbkgficiaaSF2
namespace Go.Proofs.Ytppcdmbkgficiaa
open Go.BX
theorem subM_cut {ys : List Pc} {k n : Nat} : subM (ys.take k) k n = subM ys k n := by
 unfold subM
 rw [List.take_take, Nat.min_self]
theorem invM_cut {ys : List Pc} {k n : Nat} : invM (ys.take k) k n = invM ys k n := by
 unfold invM
 rw [subM_cut]
theorem datL_cut {ys : List Pc} {k n l : Nat} : datL (ys.take k) k n l = datL ys k n l := by
 unfold datL
 rw [invM_cut, List.take_take, Nat.min_self]
theorem selQ_facts {ps pq : List Pc} {n l k : Nat} (hok : PsOk ps n l) (hkn : k ≤ n) (hn : n ≤ 255) (hlen : k ≤ ps.length) (hq : pq = (selI ps n).take k) :
 pq.length = k ∧ (∀ p ∈ pq, p.data.length = l) ∧ (∀ p ∈ pq, 0 ≤ p.index ∧ p.index < (n : Int)) ∧ (redTo (subM pq k n) (ident k) k).1 = k := by
 have hp := selI_perm hok
 have hm : ∀ p ∈ pq, p ∈ ps := fun p h => hp.mem_iff.1 (List.mem_of_mem_take (hq ▸ h))
 refine ⟨?_, fun p h => hok.len p (hm p h), fun p h => hok.rng p (hm p h), ?_⟩
 · have := hp.length_eq
   rw [hq, List.length_take]
   omega
 · rw [hq, subM_cut]
   exact any_reg hlen hkn hn hok _ hp (selI_sorted hok)
theorem r4dec_ok {S : Nat → Prop} {w : World} {ps : List Pc} {a : Option Addr} {c : Nat} (h : (Shape.slice pcS).rep S w [.slice a ps.length c] ps) {size k n : Nat} (hs : size ≤ 65536) (hk : 1 ≤ k) (hkn : k ≤ n) (hn : n ≤ 255) (hok : PsOk ps n (lenOf size k)) (hlen : k ≤ ps.length) :
 Calls Try.prog 41 #[.slice a ps.length c, .I size, .I k, .I n] w (Ret fun v w' => Ext w w' ∧ ∃ (a : Option Addr) (c : Nat), v = .tuple #[.slice a (objL (selI ps n) k n size).length c, .I 0] ∧ SB.rep (Nw S w) w' [.slice a (objL (selI ps n) k n size).length c] (objL (selI ps n) k n size)) := by
 refine uS1 Try.func41 ?_
 have H := Hp.startF (.rp h .nil)
 refine uR 3 [.c [1, 0], .c [2]] ?_
 refine qG (sq 0 10) ?_
 refine uP 4 ?_
 refine uK (r4pick_ok (ps := ps) (H.rp 0 rfl) hs hk hkn hn hok hlen) ?_
 rintro _ _ x ⟨_, _, rfl, o⟩
 obtain ⟨pq, hpq⟩ : ∃ z, z = (selI ps n).take k := ⟨_, rfl⟩
 rw [← hpq] at o ⊢
 obtain ⟨hql, hqd, hqr, hrg⟩ := selQ_facts hok hkn hn hlen hpq
 have H := H.addM x o
 refine uF 5 ?_
 refine uR 6 [.c [3, 0], .c [4]] ?_
 refine qG (sq 0 5) ?_
 refine uP 3 ?_
 refine uK (r4data_spec (pq := pq) (H.rp 0 rfl) hk hkn hn (l := (lenOf size k)) (Nat.le_trans (lenOf_le (by omega)) hs) hql hqd hqr hrg) ?_
 rintro _ _ y ⟨A, B, rfl, t⟩
 have hdl := datL_len (n := n) (l := (lenOf size k)) (show k ≤ pq.length by omega)
 have hda := datL_all (k := k) (n := n) hqd
 have hLs : (lenOf size k) ≤ 65536 := Nat.le_trans (lenOf_le (by omega)) hs
 have hmu := lenOf_mul (size := size) (k := k) (by omega)
 have L := hda ((datL pq k n (lenOf size k))[0]'(by omega)) (List.getElem_mem _)
 have H := H.addM y t
 refine uF 1 ?_
 refine uR 6 [.c [5, 0, 1, 0], .b 0, .c [6]] ?_
 have H := H.ownNil Sb 5
 have H : Hp w S [] [] [⟨Sb, 5, .slice none ((catTo (datL pq k n (lenOf size k)) 0).length) 0, catTo (datL pq k n (lenOf size k)) 0⟩] [_, _, _] _ := H
 have H := H.pick [0] rfl
 refine uL (α := Nat × Option Addr × Nat) (g := 41) (p := [5, 0, 1, 0, 0]) (fun (i, ao, co) => [(1, .I size), (2, .I k), (12, .slice A ((datL pq k n (lenOf size k)).length) B), (13, .slice ao ((catTo (datL pq k n (lenOf size k)) i).length) co), (14, .I i)]) (fun (i, ao, co) w' => Hp w S [] [] [⟨Sb, 5, .slice ao ((catTo (datL pq k n (lenOf size k)) i).length) co, catTo (datL pq k n (lenOf size k)) i⟩] [Rp (Shape.slice SB) [.slice A ((datL pq k n (lenOf size k)).length) B] (datL pq k n (lenOf size k))] w' ∧ i ≤ k) (fun (i, ao, co) => k - i) (0, none, 0) ⟨H, Nat.zero_le _⟩ ?_
 rintro ⟨i, ao, co⟩ _ ⟨H, _⟩ f
 refine uR 3 [.c [5, 0, 1, 0, 0, 0, 1], .c [5, 0, 1, 0, 0, 1], .l [5, 0, 1, 0, 0], .b 0, .c [6]] ?_
 refine qD (((i : Int) : Int) < (k : Int)) (fun C => ?_) (fun C => ?_)
 ·
  have hil := hda ((datL pq k n (lenOf size k))[i]) (List.getElem_mem (by omega))
  have hib : i * (lenOf size k) ≤ 255 * 65536 := Nat.mul_le_mul (by omega) hLs
  have hcl := catTo_len (m := (datL pq k n (lenOf size k))) hda (show i ≤ (datL pq k n (lenOf size k)).length by omega)
  refine uR 3 [.c [5, 0, 1, 0, 0, 1, 0, 0], .b 1, .c [5, 0, 1, 0, 0, 2], .l [5, 0, 1, 0, 0], .b 0, .c [6]] ?_
  refine qG (sq 0 7) ?_
  refine uP 3 ?_
  have u : i < (datL pq k n (lenOf size k)).length := by omega
  refine uX 29 (i : Int) H 0 rfl i (by omega) (List.getElem?_eq_getElem u) ?_
  intro D E _ j H
  obtain ⟨F, G, rfl⟩ := Shape.slice_form' j
  have H := H.addR j
  refine uV 23 0 (H.fc 1 rfl) ?_
  refine uA 23 23 1 (catTo (datL pq k n (lenOf size k)) (i + 1)) H 0 rfl 0 rfl (catTo_succ (by omega)) (by rw [← catTo_succ (by omega), List.length_append]; omega) ?_
  intro q s _ H _
  have H : Hp w S [] [] [⟨Sb, 5, .slice q ((catTo (datL pq k n (lenOf size k)) (i + 1)).length) s, catTo (datL pq k n (lenOf size k)) (i + 1)⟩] [_, Fc D E [.slice F (((datL pq k n (lenOf size k))[i]).length) G], _] _ := H
  refine uF 1 ?_
  refine uR 1 [.c [5, 0, 1, 0, 0, 2], .l [5, 0, 1, 0, 0], .b 0, .c [6]] ?_
  refine qG (sq 0 3) ?_
  refine uP 1 ?_
  refine uI ((i : Int) + 1) ?_
  refine uF 1 ?_
  have H := H.pick [2] rfl
  exact uB (f (i + 1, q, s) _ ⟨H, by omega⟩ (by first | omega | (simp only []; omega)))
 ·
  have hik : k = i := by omega
  subst hik
  have hcl := catTo_len (m := (datL pq k n (lenOf size k))) hda (show k ≤ (datL pq k n (lenOf size k)).length by omega)
  refine uR 2 [.c [6, 0], .c [7]] ?_
  refine qG (sq 0 5) ?_
  refine uP 2 ?_
  have H : Hp w S [] [] [] [Rp SB [.slice ao ((catTo (datL pq k n (lenOf size k)) k).length) co] (catTo (datL pq k n (lenOf size k)) k), _] _ := H.freezeW 0 rfl
  refine RW.slice (κ := .seq) (d := some 43) (r := (sq 3 5)) (T := 23) (e := 5) (sh := Sb) (a := ao) (len := ((catTo (datL pq k n (lenOf size k)) k).length)) (cap := co) (zs := (objL pq k n size)) (lv := none) (hv := (some (.I size))) (by as_aux_lemma => kernel_rfl) (by as_aux_lemma => kernel_rfl) H 0 rfl 0 size .nil (.mk (by omega)) (by omega) (by omega) (by rw [List.drop_zero]; unfold objL catTo; rw [List.take_of_length_le (l := (datL pq k n (lenOf size k))) (by omega)]) ?_
  intro J H
  refine uF 2 ?_
  refine qT (.tuple #[.slice J (objL pq k n size).length co, .I 0]) Try.func41 ?_
  have K : objL pq k n size = objL (selI ps n) k n size := by unfold objL; rw [hpq, datL_cut]
  rw [K] at H ⊢
  exact ⟨_, rfl, H.done, _, _, rfl, H.out (H.rp 0 rfl)⟩
theorem r4reb_ok {S : Nat → Prop} {w : World} {ps : List Pc} {a : Option Addr} {c : Nat} (h : (Shape.slice pcS).rep S w [.slice a ps.length c] ps) {size k n : Nat} (hs : size ≤ 65536) (hk : 1 ≤ k) (hkn : k ≤ n) (hn : n ≤ 255) (hok : PsOk ps n (lenOf size k)) (hlen : k ≤ ps.length) {x : Nat} (hx : x < n) :
 Calls Try.prog 42 #[.slice a ps.length c, .I size, .I k, .I n, .I x] w (Ret fun v w' => Ext w w' ∧ ∃ (a : Option Addr) (c : Nat), v = .tuple #[.slice a (rebL (selI ps n) k n size x).length c, .I 0] ∧ SB.rep (Nw S w) w' [.slice a (rebL (selI ps n) k n size x).length c] (rebL (selI ps n) k n size x)) := by
 have hgl := gen_len k n
 refine uS1 Try.func42 ?_
 have H := Hp.startF (.rp h .nil)
 refine uR 3 [.c [1, 0], .c [2]] ?_
 refine qG (sq 0 8) ?_
 refine uP 2 ?_
 refine uK (r4len_ok (S := fun _ => True) size k hs hk (by omega)) ?_
 rintro _ _ R rfl
 have H := H.ext R
 refine uF 5 ?_
 refine uR 2 [.c [2, 0, 0], .c [2, 0, 1], .c [3]] ?_
 refine qG (sq 0 20) ?_
 refine uP 8 ?_
 refine uD 34 (((n : Int) : Int) < (k : Int)) (fun h3 => ?_) (fun h3 => ?_)
 ·
  omega
 ·
  refine uP 4 ?_
  refine uD 38 (((n : Int) : Int) > 255) (fun h4 => ?_) (fun h4 => ?_)
  ·
   omega
  ·
   refine uP 4 ?_
   refine uD 42 (((x : Int) : Int) < 0) (fun h5 => ?_) (fun h5 => ?_)
   ·
    omega
   ·
    refine uF 4 ?_
    refine qD (((x : Int) : Int) ≥ (n : Int)) (fun h6 => ?_) (fun h6 => ?_)
    ·
     omega
    ·
     refine uR 2 [.c [3, 0], .c [4]] ?_
     refine qG (sq 0 10) ?_
     refine uP 4 ?_
     refine uK (r4pick_ok (ps := ps) (H.rp 0 rfl) hs hk hkn hn hok hlen) ?_
     rintro _ _ E ⟨a8, c9, rfl, m⟩
     obtain ⟨pq, hpq⟩ : ∃ z, z = (selI ps n).take k := ⟨_, rfl⟩
     rw [← hpq] at m ⊢
     obtain ⟨hql, hqd, hqr, hrg⟩ := selQ_facts hok hkn hn hlen hpq
     have H := H.addM E m
     refine qF 5 [(2, .I k), (3, .I n), (4, .I x), (14, .slice a8 pq.length c9), (15, .I 0)] ?_
     refine uR 6 [.c [5, 0], .c [6]] ?_
     refine qG (sq 0 5) ?_
     refine uP 3 ?_
     refine uK (r4data_spec (pq := pq) (H.rp 0 rfl) hk hkn hn (l := (lenOf size k)) (Nat.le_trans (lenOf_le (by omega)) hs) hql hqd hqr hrg) ?_
     rintro _ _ F ⟨o, q, rfl, G⟩
     have hdl := datL_len (n := n) (l := (lenOf size k)) (show k ≤ pq.length by omega)
     have hda := datL_all (k := k) (n := n) hqd
     have hLs : (lenOf size k) ≤ 65536 := Nat.le_trans (lenOf_le (by omega)) hs
     have hmu := lenOf_mul (size := size) (k := k) (by omega)
     have c0 := hda ((datL pq k n (lenOf size k))[0]'(by omega)) (List.getElem_mem _)
     have H := H.addM F G
     refine uF 1 ?_
     refine uR 1 [.c [6, 0], .c [7]] ?_
     refine qG (sq 0 8) ?_
     refine uP 2 ?_
     refine uK (rgen_spec (S := Av S w [] (idsOf [] [])) k n hk hkn hn) ?_
     rintro _ _ J ⟨s, t, rfl, K⟩
     have H := H.addM J K
     refine uF 5 ?_
     refine uR 1 [.c [7, 0], .c [8]] ?_
     refine qG (sq 0 6) ?_
     refine uP 1 ?_
     have L : 0 < (datL pq k n (lenOf size k)).length := by omega
     refine uX 29 0 H 1 rfl 0 (by omega) (List.getElem?_eq_getElem L) ?_
     intro U V _ u H
     obtain ⟨W, X, rfl⟩ := Shape.slice_form' u
     have H := H.addR u
     refine uV 23 0 (H.fc 1 rfl) ?_
     refine uP 1 ?_
     refine RW.makeW Sb (κ := .seq) (d := some 72) (r := (sq 5 6)) (T := 23) (e := 5) (by_ := 1) (v0 := .int .u8 0) (0#8 : BitVec 8) (kl := .i64) (kc := .i64) (lv := ((((datL pq k n (lenOf size k))[0]).length : Nat) : Int)) (cv := ((((datL pq k n (lenOf size k))[0]).length : Nat) : Int)) (by as_aux_lemma => kernel_rfl) (nofun) (by as_aux_lemma => kernel_rfl) rfl H (lenOf size k) (lenOf size k) (by omega) (by omega) (by omega) (by omega) (by omega) (fun _ _ => rfl) ?_
     intro f _ H
     have H : Hp w S [] [] [⟨Sb, 5, .slice (some ⟨f, 0, none⟩) (lenOf size k) (lenOf size k), (List.replicate (lenOf size k) (0#8 : BitVec 8))⟩] [_, Fc U V [.slice W (((datL pq k n (lenOf size k))[0]).length) X], _, _, _, _] _ := H
     refine uF 1 ?_
     refine qR 4 [.c [8, 0, 1, 0], .b 0, .c [9]] [(2, .I k), (4, .I x), (16, .slice o ((datL pq k n (lenOf size k)).length) q), (17, .slice s (gen k n).length t), (19, .slice (some ⟨f, 0, none⟩) (lenOf size k) (lenOf size k)), (20, .I 0)] ?_
     have H : Hp w S [] [] [] [Rp SB [.slice (some ⟨f, 0, none⟩) (lenOf size k) (lenOf size k)] (List.replicate (lenOf size k) (0#8 : BitVec 8)), _, _, _, _, _, _] _ := H.freezeW 0 rfl
     have H : Hp w S [] [] [] [Rp SB [.slice (some ⟨f, 0, none⟩) (lenOf size k) (lenOf size k)] (mixAll ((genRow k x).take 0) (datL pq k n (lenOf size k)) (List.replicate (lenOf size k) (0#8 : BitVec 8))), _, _, _, _, _, _] _ := H
     have H := H.pick [0, 3, 4] rfl
     refine uL (α := Nat × Option Addr × Nat) (g := 42) (p := [8, 0, 1, 0, 0]) (fun (j, ta, tc) => [(2, .I k), (4, .I x), (16, .slice o ((datL pq k n (lenOf size k)).length) q), (17, .slice s (gen k n).length t), (19, .slice ta (lenOf size k) tc), (20, .I j)]) (fun (j, ta, tc) w' => Hp w S [] [] [] [Rp SB [.slice ta (lenOf size k) tc] (mixAll ((genRow k x).take j) (datL pq k n (lenOf size k)) (List.replicate (lenOf size k) (0#8 : BitVec 8))), Rp (Shape.slice SB) [.slice s (gen k n).length t] (gen k n), Rp (Shape.slice SB) [.slice o ((datL pq k n (lenOf size k)).length) q] (datL pq k n (lenOf size k))] w' ∧ j ≤ k) (fun (j, ta, tc) => k - j) (0, (some ⟨f, 0, none⟩), (lenOf size k)) ⟨H, Nat.zero_le _⟩ ?_
     rintro ⟨j, ta, tc⟩ C ⟨H, _⟩ i
     refine uR 3 [.c [8, 0, 1, 0, 0, 0, 1], .c [8, 0, 1, 0, 0, 1], .l [8, 0, 1, 0, 0], .b 0, .c [9]] ?_
     refine qD (((j : Int) : Int) < (k : Int)) (fun Y => ?_) (fun Y => ?_)
     ·
      have hdj := hda ((datL pq k n (lenOf size k))[j]) (List.getElem_mem (by omega))
      refine uR 3 [.c [8, 0, 1, 0, 0, 1, 0, 0], .b 1, .c [8, 0, 1, 0, 0, 2], .l [8, 0, 1, 0, 0], .b 0, .c [9]] ?_
      refine WK.draw1 17 [(0, .qui), (1, .qui), (2, .qui), (3, .qui), (4, .qui), (5, .qui), (6, .qui), (7, .qui), (8, .qui), (9, .qui), (10, .qui), (11, .qui), (12, .chn), (13, .qui), (14, .qui), (15, .qui), (16, .qui)] [(0, .qui), (1, .qui), (2, .qui), (3, .qui), (4, .qui), (5, .qui), (6, .qui), (7, .qui), (8, .qui), (9, .qui), (10, .qui), (11, .qui), (12, .chn), (13, .qui), (14, .qui), (15, .qui), (16, .qui)] Try_mixed (by as_aux_lemma => kernel_rfl) (by as_aux_lemma => kernel_rfl) (by as_aux_lemma => kernel_rfl) ?_
      have H := H.draw
      generalize ({ C with drawn := C.drawn + 1 } : World) = d0 at H ⊢
      refine uP 3 ?_
      have M : j < (datL pq k n (lenOf size k)).length := by omega
      refine uX 29 (j : Int) H 2 rfl j (by omega) (List.getElem?_eq_getElem M) ?_
      intro _ _ _ y H
      obtain ⟨_, _, rfl⟩ := Shape.slice_form' y
      have H := H.addR y
      refine uV 23 0 (H.fc 1 rfl) ?_
      refine uP 2 ?_
      have b0 : x < (gen k n).length := by rw [gen_len]; exact hx
      refine uX 29 (x : Int) H 3 rfl x (by omega) (gen_get hx) ?_
      intro _ _ _ A H
      obtain ⟨_, _, rfl⟩ := Shape.slice_form' A
      have H := H.addR A
      refine uV 23 0 (H.fc 1 rfl) ?_
      refine uP 1 ?_
      have N : j < (genRow k x).length := by rw [genRow_len]; omega
      refine uX 23 (j : Int) H 0 rfl j (by omega) (List.getElem?_eq_getElem N) ?_
      intro _ _ _ O H
      obtain rfl := O
      refine uV 5 0 (H.fc 0 rfl) ?_
      have hmx := mixAll_len (row := (genRow k x).take j) (ds := (datL pq k n (lenOf size k))) (acc := (List.replicate (lenOf size k) (0#8 : BitVec 8))) (l := (lenOf size k)) List.length_replicate hda
      have P := mixAll_len (row := (genRow k x).take (j + 1)) (ds := (datL pq k n (lenOf size k))) (acc := (List.replicate (lenOf size k) (0#8 : BitVec 8))) (l := (lenOf size k)) List.length_replicate hda
      have hmt := mixAll_take (row := (genRow k x)) (ds := (datL pq k n (lenOf size k))) (acc := (List.replicate (lenOf size k) (0#8 : BitVec 8))) (j := j) (List.getElem?_eq_getElem (by rw [genRow_len]; omega)) (List.getElem?_eq_getElem (by omega))
      refine uK (r1mix_n (xs := (mixAll ((genRow k x).take j) (datL pq k n (lenOf size k)) (List.replicate (lenOf size k) (0#8 : BitVec 8)))) (ys := (datL pq k n (lenOf size k))[j]) ((genRow k x)[j]) hmx (H.rp 5 rfl) (H.rp 3 rfl) (by rw [hmx]; exact hdj.symm) (by omega)) ?_
      rintro _ _ Q ⟨Z, a0, rfl, B⟩
      rw [← hmt, P] at B ⊢
      have H := H.addM Q B
      refine uF 4 ?_
      refine uR 1 [.c [8, 0, 1, 0, 0, 2], .l [8, 0, 1, 0, 0], .b 0, .c [9]] ?_
      refine qG (sq 0 3) ?_
      refine uP 1 ?_
      refine uI ((j : Int) + 1) ?_
      refine uF 1 ?_
      have H := H.pick [0, 7, 8] rfl
      exact uB (i (j + 1, Z, a0) _ ⟨H, by omega⟩ (by first | omega | (simp only []; omega)))
     ·
      refine uR 3 [.c [10]] ?_
      refine qT (.tuple #[.slice ta (lenOf size k) tc, .I 0]) Try.func42 ?_
      have hjk : j = k := by omega
      have hmx := mixAll_len (row := (genRow k x).take j) (ds := (datL pq k n (lenOf size k))) (acc := (List.replicate (lenOf size k) (0#8 : BitVec 8))) (l := (lenOf size k)) List.length_replicate hda
      have e9 : mixAll ((genRow k x).take j) (datL pq k n (lenOf size k)) (List.replicate (lenOf size k) (0#8 : BitVec 8)) = (rebL (selI ps n) k n size x) := by unfold rebL; rw [hpq, datL_cut, List.take_of_length_le (by rw [genRow_len]; omega)]
      have e8 : (rebL (selI ps n) k n size x).length = (lenOf size k) := e9 ▸ hmx
      have D := H.out (H.rp 0 rfl)
      rw [e9] at D
      exact ⟨_, rfl, H.done, ta, tc, by rw [e8], by rw [e8]; exact D⟩
end Go.Proofs.Ytppcdmbkgficiaa
