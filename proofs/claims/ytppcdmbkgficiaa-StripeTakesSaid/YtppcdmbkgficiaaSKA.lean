import Derived.Test.YtppcdmbkgficiaaSBxA
import Derived.Test.YtppcdmbkgficiaaSK9
namespace Go.Proofs.Ytppcdmbkgficiaa
open Go.BX
open Go
def decC (ps : List Pc) (size k n : Int) : Int := if okS size k n then (if PsOk ps n.toNat (lenOf size.toNat k.toNat) then (if k.toNat ≤ ps.length then 0 else 30) else 31) else 2
def decG (ps : List Pc) (size k n : Int) : List (BitVec 8) := if decC ps size k n = 0 then objL (selI ps n.toNat) k.toNat n.toNat size.toNat else []
def rbC (ps : List Pc) (size k n x : Int) : Int := if okS size k n ∧ 0 ≤ x ∧ x < n then decC ps size k n else 2
def rbG (ps : List Pc) (size k n x : Int) : List (BitVec 8) := if rbC ps size k n x = 0 then rebL (selI ps n.toNat) k.toNat n.toNat size.toNat x.toNat else []
theorem dec_zero {ps : List Pc} {size k n : Int} (h : decC ps size k n = 0) : okS size k n ∧ PsOk ps n.toNat (lenOf size.toNat k.toNat) ∧ k.toNat ≤ ps.length := by
 unfold decC at h
 by_cases h1 : okS size k n
 · rw [if_pos h1] at h
   by_cases h2 : PsOk ps n.toNat (lenOf size.toNat k.toNat)
   · rw [if_pos h2] at h
     by_cases h3 : k.toNat ≤ ps.length
     · exact ⟨h1, h2, h3⟩
     · rw [if_neg h3] at h; cases h
   · rw [if_neg h2] at h; cases h
 · rw [if_neg h1] at h; cases h
theorem r4pick_ref {S : Nat → Prop} {w : World} {ps : List Pc} {a : Option Addr} {c : Nat} (size k n : Int) (h : (Shape.slice pcS).rep S w [.slice a ps.length c] ps) (hy : decC ps size k n ≠ 0) :
 Calls Try.prog 76 #[.slice a ps.length c, .I size, .I k, .I n] w (Ret fun v w' => Ext w w' ∧ v = .tuple #[.slice none 0 0, .I (decC ps size k n)]) := by
 by_cases hb : okS size k n
 · obtain ⟨_, _, _, _, _⟩ := id hb
   obtain ⟨size, rfl⟩ : ∃ m : Nat, size = (m : Int) := ⟨size.toNat, by omega⟩
   obtain ⟨k, rfl⟩ : ∃ m : Nat, k = (m : Int) := ⟨k.toNat, by omega⟩
   obtain ⟨n, rfl⟩ : ∃ m : Nat, n = (m : Int) := ⟨n.toNat, by omega⟩
   by_cases hps : PsOk ps n (lenOf size k)
   · by_cases hl : k ≤ ps.length
     · exact absurd ((if_pos hb).trans ((if_pos hps).trans (if_pos hl))) hy
     · have b : decC ps size k n = 30 := (if_pos hb).trans ((if_pos hps).trans (if_neg hl))
       rw [b]
       exact r4pick_few h (by omega) (by omega) (by omega) (by omega) hps (by omega)
   · have b : decC ps size k n = 31 := (if_pos hb).trans (if_neg hps)
     rw [b]
     exact r4pick_bad h (by omega) (by omega) (by omega) (by omega) hps
 · have b : decC ps size k n = 2 := if_neg hb
   rw [b]
   exact r4pick_arg (S := S) size k n hb
theorem chosen_ref {S : Nat → Prop} {w : World} {ps : List Pc} {a : Option Addr} {c : Nat} (size k n : Int) (h : (Shape.slice pcS).rep S w [.slice a ps.length c] ps) (hy : decC ps size k n ≠ 0) :
 Calls Try.prog 99 #[.slice a ps.length c, .I size, .I k, .I n] w (Ret fun v w' => Ext w w' ∧ v = .tuple #[.slice none 0 0, .I 0, .I (decC ps size k n)]) := by
 by_cases hb : okS size k n
 · obtain ⟨_, _, _, _, _⟩ := id hb
   obtain ⟨size, rfl⟩ : ∃ m : Nat, size = (m : Int) := ⟨size.toNat, by omega⟩
   obtain ⟨k, rfl⟩ : ∃ m : Nat, k = (m : Int) := ⟨k.toNat, by omega⟩
   obtain ⟨n, rfl⟩ : ∃ m : Nat, n = (m : Int) := ⟨n.toNat, by omega⟩
   by_cases hps : PsOk ps n (lenOf size k)
   · by_cases hl : k ≤ ps.length
     · exact absurd ((if_pos hb).trans ((if_pos hps).trans (if_pos hl))) hy
     · have b : decC ps size k n = 30 := (if_pos hb).trans ((if_pos hps).trans (if_neg hl))
       rw [b]
       exact chosen_few h (by omega) (by omega) (by omega) (by omega) hps (by omega)
   · have b : decC ps size k n = 31 := (if_pos hb).trans (if_neg hps)
     rw [b]
     exact chosen_bad h (by omega) (by omega) (by omega) (by omega) hps
 · have b : decC ps size k n = 2 := if_neg hb
   rw [b]
   exact chosen_arg (S := S) size k n hb
theorem decS_gen {S : Nat → Prop} {w : World} {ps : List Pc} {a : Option Addr} {c : Nat} (size k n : Int) (h : (Shape.slice pcS).rep S w [.slice a ps.length c] ps) :
 Calls Try.prog 31 #[.slice a ps.length c, .I size, .I k, .I n] w (Ret fun v w' => Ext w w' ∧ ∃ (a' : Option Addr) (c' : Nat), v = .tuple #[.slice a' (decG ps size k n).length c', .I (decC ps size k n)] ∧ SB.rep (Nw S w) w' [.slice a' (decG ps size k n).length c'] (decG ps size k n)) := by
 by_cases hy : decC ps size k n = 0
 · have d : decG ps size k n = objL (selI ps n.toNat) k.toNat n.toNat size.toNat := if_pos hy
   obtain ⟨hb, hps, hlen⟩ := dec_zero hy
   rw [d, hy]
   clear d hy
   obtain ⟨_, _, _, _, _⟩ := id hb
   obtain ⟨size, rfl⟩ : ∃ m : Nat, size = (m : Int) := ⟨size.toNat, by omega⟩
   obtain ⟨k, rfl⟩ : ∃ m : Nat, k = (m : Int) := ⟨k.toNat, by omega⟩
   obtain ⟨n, rfl⟩ : ∃ m : Nat, n = (m : Int) := ⟨n.toNat, by omega⟩
   exact (decode_ok h (by omega) (by omega) (by omega) (by omega) hps hlen (any_reg hlen (by omega) (by omega) hps)).mono (fun e W' ⟨v, he, hE, a9, c9, ys, hv, hp9, hs9, hr⟩ => by
    obtain rfl := sel_eq hps hp9 hs9
    exact ⟨v, he, hE, a9, c9, hv, hr⟩)
 · have d : decG ps size k n = [] := if_neg hy
   exact toNil (decode_ref (S := S) size k n _ hy (fun g hE => data_ref (S := S) size k n _ hy fun i f => chosen_ref (S := S) size k n ((Shape.slice pcS).step h fun b hb hl => ⟨hb, RowKit.Below.block (hE.trans f) b hl⟩) hy)) d
theorem decR_gen {S : Nat → Prop} {w : World} {ps : List Pc} {a : Option Addr} {c : Nat} (size k n : Int) (h : (Shape.slice pcS).rep S w [.slice a ps.length c] ps) :
 Calls Try.prog 41 #[.slice a ps.length c, .I size, .I k, .I n] w (Ret fun v w' => Ext w w' ∧ ∃ (a' : Option Addr) (c' : Nat), v = .tuple #[.slice a' (decG ps size k n).length c', .I (decC ps size k n)] ∧ SB.rep (Nw S w) w' [.slice a' (decG ps size k n).length c'] (decG ps size k n)) := by
 by_cases hy : decC ps size k n = 0
 · have d : decG ps size k n = objL (selI ps n.toNat) k.toNat n.toNat size.toNat := if_pos hy
   obtain ⟨hb, hps, hlen⟩ := dec_zero hy
   rw [d, hy]
   clear d hy
   obtain ⟨_, _, _, _, _⟩ := id hb
   obtain ⟨size, rfl⟩ : ∃ m : Nat, size = (m : Int) := ⟨size.toNat, by omega⟩
   obtain ⟨k, rfl⟩ : ∃ m : Nat, k = (m : Int) := ⟨k.toNat, by omega⟩
   obtain ⟨n, rfl⟩ : ∃ m : Nat, n = (m : Int) := ⟨n.toNat, by omega⟩
   exact r4dec_ok h (by omega) (by omega) (by omega) (by omega) hps hlen
 · have d : decG ps size k n = [] := if_neg hy
   exact toNil (r4dec_ref (S := S) size k n _ hy (fun e hE => r4pick_ref (S := S) size k n ((Shape.slice pcS).step h fun b hb hl => ⟨hb, RowKit.Below.block hE b hl⟩) hy)) d
theorem rbS_gen {S : Nat → Prop} {w : World} {ps : List Pc} {a : Option Addr} {c : Nat} (size k n : Int) (h : (Shape.slice pcS).rep S w [.slice a ps.length c] ps) (x : Int) :
 Calls Try.prog 32 #[.slice a ps.length c, .I size, .I k, .I n, .I x] w (Ret fun v w' => Ext w w' ∧ ∃ (a' : Option Addr) (c' : Nat), v = .tuple #[.slice a' (rbG ps size k n x).length c', .I (rbC ps size k n x)] ∧ SB.rep (Nw S w) w' [.slice a' (rbG ps size k n x).length c'] (rbG ps size k n x)) := by
 by_cases hx : okS size k n ∧ 0 ≤ x ∧ x < n
 · have d : rbC ps size k n x = decC ps size k n := if_pos hx
   by_cases hy : decC ps size k n = 0
   · have f : rbG ps size k n x = rebL (selI ps n.toNat) k.toNat n.toNat size.toNat x.toNat := if_pos (d.trans hy)
     obtain ⟨hb, hps, hlen⟩ := dec_zero hy
     rw [f, d, hy]
     obtain ⟨-, _, _⟩ := hx
     clear f d hy
     obtain ⟨_, _, _, _, _⟩ := id hb
     obtain ⟨size, rfl⟩ : ∃ m : Nat, size = (m : Int) := ⟨size.toNat, by omega⟩
     obtain ⟨k, rfl⟩ : ∃ m : Nat, k = (m : Int) := ⟨k.toNat, by omega⟩
     obtain ⟨n, rfl⟩ : ∃ m : Nat, n = (m : Int) := ⟨n.toNat, by omega⟩
     obtain ⟨x, rfl⟩ : ∃ m : Nat, x = (m : Int) := ⟨x.toNat, by omega⟩
     exact (rebuild_ok h (by omega) (by omega) (by omega) (by omega) hps hlen (any_reg hlen (by omega) (by omega) hps) (by omega)).mono (fun e W' ⟨v, he, hE, a9, c9, ys, hv, hp9, hs9, hr⟩ => by
      obtain rfl := sel_eq hps hp9 hs9
      exact ⟨v, he, hE, a9, c9, hv, hr⟩)
   · have f : rbG ps size k n x = [] := if_neg fun q => hy (d.symm.trans q)
     rw [d]
     exact toNil (rebuild_ref (S := S) size k n _ hy hx.1 x hx.2 (fun i hE => data_ref (S := S) size k n _ hy fun j g => chosen_ref (S := S) size k n ((Shape.slice pcS).step h fun b hb hl => ⟨hb, RowKit.Below.block (hE.trans g) b hl⟩) hy)) f
 · have d : rbC ps size k n x = 2 := if_neg hx
   have f : rbG ps size k n x = [] := if_neg fun q => by rw [d] at q; cases q
   rw [d]
   exact toNil (rebuild_arg (S := S) size k n x hx) f
theorem rbR_gen {S : Nat → Prop} {w : World} {ps : List Pc} {a : Option Addr} {c : Nat} (size k n : Int) (h : (Shape.slice pcS).rep S w [.slice a ps.length c] ps) (x : Int) :
 Calls Try.prog 42 #[.slice a ps.length c, .I size, .I k, .I n, .I x] w (Ret fun v w' => Ext w w' ∧ ∃ (a' : Option Addr) (c' : Nat), v = .tuple #[.slice a' (rbG ps size k n x).length c', .I (rbC ps size k n x)] ∧ SB.rep (Nw S w) w' [.slice a' (rbG ps size k n x).length c'] (rbG ps size k n x)) := by
 by_cases hx : okS size k n ∧ 0 ≤ x ∧ x < n
 · have d : rbC ps size k n x = decC ps size k n := if_pos hx
   by_cases hy : decC ps size k n = 0
   · have e : rbG ps size k n x = rebL (selI ps n.toNat) k.toNat n.toNat size.toNat x.toNat := if_pos (d.trans hy)
     obtain ⟨hb, hps, hlen⟩ := dec_zero hy
     rw [e, d, hy]
     obtain ⟨-, _, _⟩ := hx
     clear e d hy
     obtain ⟨_, _, _, _, _⟩ := id hb
     obtain ⟨size, rfl⟩ : ∃ m : Nat, size = (m : Int) := ⟨size.toNat, by omega⟩
     obtain ⟨k, rfl⟩ : ∃ m : Nat, k = (m : Int) := ⟨k.toNat, by omega⟩
     obtain ⟨n, rfl⟩ : ∃ m : Nat, n = (m : Int) := ⟨n.toNat, by omega⟩
     obtain ⟨x, rfl⟩ : ∃ m : Nat, x = (m : Int) := ⟨x.toNat, by omega⟩
     exact r4reb_ok h (by omega) (by omega) (by omega) (by omega) hps hlen (by omega)
   · have e : rbG ps size k n x = [] := if_neg fun q => hy (d.symm.trans q)
     rw [d]
     exact toNil (r4reb_ref (S := S) size k n _ hy hx.1 x hx.2 (fun f hE => r4pick_ref (S := S) size k n ((Shape.slice pcS).step h fun b hb hl => ⟨hb, RowKit.Below.block hE b hl⟩) hy)) e
 · have d : rbC ps size k n x = 2 := if_neg hx
   have e : rbG ps size k n x = [] := if_neg fun q => by rw [d] at q; cases q
   rw [d]
   exact toNil (r4reb_arg (S := S) size k n x hx) e
set_option maxHeartbeats 2000000 in
theorem takes_spec {S : Nat → Prop} {w : World} {ps : List Pc} {a : Option Addr} {c : Nat} (h : (Shape.slice pcS).rep S w [.slice a ps.length c] ps) (size k n x : Int) {C : Chk} {cs : List Value} (hC : chkS.rep S w cs C) :
 Calls Try.prog 10 #[.slice a ps.length c, .I size, .I k, .I n, .I x, .agg cs.toArray] w (Ret fun v w' => Ext w w' ∧ v = .bool true) := by
 obtain ⟨_, d, e, rfl, A, B⟩ := chk_open hC
 obtain ⟨_, rfl, b, _, _, _⟩ := hdr_open A
 obtain ⟨rfl, _, _, _⟩ := cid_open b
 refine uS1 Try.func10 ?_
 have H := Hp.startF (.rp h (.rp B .nil))
 refine uR 1 [.c [0], .c [1]] ?_
 refine qG (sq 0 2) ?_
 refine uC ((chkV C d e).toArray) 92 H ?_
 intro K _ H
 refine uF 1 ?_
 refine uR 1 [.c [1, 0], .c [2]] ?_
 refine qG (sq 0 10) ?_
 refine uP 4 ?_
 refine uK (decS_gen (ps := ps) size k n (H.rp 0 rfl)) ?_
 rintro _ _ D ⟨L, M, rfl, E⟩
 have H := H.addM D E
 refine uF 5 ?_
 refine uR 1 [.c [2, 0], .c [3]] ?_
 refine qG (sq 0 10) ?_
 refine uP 4 ?_
 refine uK (decR_gen (ps := ps) size k n (H.rp 1 rfl)) ?_
 rintro _ _ l ⟨N, F, rfl, m⟩
 have H := H.addM l m
 refine uF 5 ?_
 refine uR 1 [.c [3, 0], .c [4]] ?_
 refine qG (sq 0 11) ?_
 refine uP 5 ?_
 refine uK (rbS_gen (ps := ps) size k n (H.rp 2 rfl) x) ?_
 rintro _ _ o ⟨G, J, rfl, p⟩
 have H := H.addM o p
 refine qF 5 [(0, .slice a ps.length c), (1, .I size), (2, .I k), (3, .I n), (4, .I x), (11, .P K 0), (13, .slice L (decG ps size k n).length M), (14, .I (decC ps size k n)), (15, .slice N (decG ps size k n).length F), (16, .I (decC ps size k n)), (17, .slice G (rbG ps size k n x).length J), (18, .I (rbC ps size k n x))] ?_
 refine uR 1 [.c [4, 0], .c [5]] ?_
 refine qG (sq 0 11) ?_
 refine uP 5 ?_
 refine uK (rbR_gen (ps := ps) size k n (H.rp 3 rfl) x) ?_
 rintro _ f q ⟨_, _, rfl, r⟩
 have H := H.addM q r
 refine uF 5 ?_
 refine uR 1 [.c [5, 0], .c [6]] ?_
 refine WK.draw1 29 [(0, .qui), (1, .qui), (2, .chn), (3, .qui), (4, .qui), (5, .qui), (6, .qui), (7, .qui), (8, .qui), (9, .qui), (10, .qui), (11, .chn), (12, .qui), (13, .qui), (14, .qui), (15, .qui), (16, .qui), (17, .qui), (18, .qui), (19, .qui), (21, .qui), (20, .chn), (22, .chn), (23, .qui), (24, .qui), (25, .qui), (26, .chn), (27, .qui), (28, .qui)] [(0, .qui), (1, .qui), (2, .chn), (3, .qui), (4, .qui), (5, .qui), (6, .qui), (7, .qui), (8, .qui), (9, .qui), (10, .qui), (11, .chn), (12, .qui), (13, .qui), (14, .qui), (15, .qui), (16, .qui), (17, .qui), (18, .qui), (19, .qui), (21, .qui), (20, .chn), (22, .chn), (23, .qui), (24, .qui), (25, .qui), (26, .chn), (27, .qui), (28, .qui)] Try_mixed (by as_aux_lemma => kernel_rfl) (by as_aux_lemma => kernel_rfl) (by as_aux_lemma => kernel_rfl) ?_
 have H := H.draw
 generalize ({ f with drawn := f.drawn + 1 } : World) = O at H ⊢
 refine uP 2 ?_
 refine uK (same01_spec (xs := decG ps size k n) (ys := decG ps size k n) (H.rp 3 rfl) (H.rp 2 rfl) (rfl)) ?_
 rintro _ _ s rfl
 have H := H.ext s
 refine uP 6 ?_
 refine uE 63 (decC ps size k n) (decC ps size k n) (fun g => ?_) (fun g => ?_)
 ·
  refine uP 2 ?_
  refine uK (same01_spec (xs := rbG ps size k n x) (ys := rbG ps size k n x) (H.rp 1 rfl) (H.rp 0 rfl) (rfl)) ?_
  rintro _ _ t rfl
  have H := H.ext t
  refine uP 7 ?_
  refine uE 73 (rbC ps size k n x) (rbC ps size k n x) (fun i => ?_) (fun i => ?_)
  ·
   refine uV 92 0 (H.cells 0 rfl) ?_
   refine uV 92 0 (H.cells 0 rfl) ?_
   refine qK .chn (some 75) [(22, .chn), (23, .qui), (24, .qui), (25, .qui), (26, .chn), (27, .qui), (28, .qui)] 43 #[.agg (chkV C d e).toArray] (whole_spec (C := C) (chk_mk (hdr_mk (cid_mk u64a i64a u64a) i64a i64a i64a Shape.bv_mk) (H.rp 5 rfl) Shape.bool_mk)) ?_
   rintro _ _ u rfl
   have H := H.ext u
   refine qK .chn (some 77) [(23, .qui), (24, .qui), (25, .qui), (26, .chn), (27, .qui), (28, .qui)] 44 #[.agg (chkV C d e).toArray] (r4whole_spec (C := C) (chk_mk (hdr_mk (cid_mk u64a i64a u64a) i64a i64a i64a Shape.bv_mk) (H.rp 5 rfl) Shape.bool_mk)) ?_
   rintro _ _ y rfl
   have H := H.ext y
   refine uP 3 ?_
   refine uE 80 (wholeE C.head C.data) (wholeE C.head C.data) (fun j => ?_) (fun j => ?_)
   ·
    refine uK (heads_spec (S := fun _ => True)) ?_
    rintro _ _ z rfl
    have H := H.ext z
    refine uF 2 ?_
    refine qT (.bool true) Try.func10 ?_
    exact ⟨_, rfl, H.done, rfl⟩
   ·
    exact absurd rfl j
  ·
   exact absurd rfl i
 ·
  exact absurd rfl g
end Go.Proofs.Ytppcdmbkgficiaa
