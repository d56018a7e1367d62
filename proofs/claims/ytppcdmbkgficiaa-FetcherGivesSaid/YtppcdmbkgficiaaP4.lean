import Derived.Test.YtppcdmbkgficiaaP3
namespace Go.Proofs.Ytppcdmbkgficiaa
open Go.BX

theorem pcclone_nil {S : Nat → Prop} {w : World} {xs : List Pc} {c : Nat} (h : (Shape.slice pcS).rep S w [.slice none xs.length c] xs) (hby : xs.length * 32 ≤ 140737488355328) :
 Calls Try.prog 122 #[.slice none xs.length c] w (Ret fun v w' => Ext w w' ∧ Hp w S [] [] [⟨pcS, 72, v, xs⟩] [] w') := by
 have hx := Shape.slice_none h
 refine qS (fn := Try.f122) (n := 8) (σ := [(0, .slice none xs.length c)]) Try.func122 ?_
 have H := Hp.startF (w := w) (S := S) (G := [Rp (Shape.slice pcS) [.slice none xs.length c] xs]) (.rp h .nil)
 refine qR 8 [.c [1, 0, 1, 0, 1], .c [2]] [(2, .slice none 0 0)] ?_
 refine qT (.slice none 0 0) Try.func122 ?_
 subst hx
 exact ⟨_, rfl, H.done, (H.pick [] rfl).ownNil pcS 72⟩

theorem pcclone_some {S : Nat → Prop} {w : World} {xs : List Pc} {a : Addr} {c : Nat} (h : (Shape.slice pcS).rep S w [.slice (some a) xs.length c] xs) (hby : xs.length * 32 ≤ 140737488355328) :
 Calls Try.prog 122 #[.slice (some a) xs.length c] w (Ret fun v w' => Ext w w' ∧ Hp w S [] [] [⟨pcS, 72, v, xs⟩] [] w') := by
 refine qS (fn := Try.f122) (n := 8) (σ := [(0, .slice (some a) xs.length c)]) Try.func122 ?_
 have H := Hp.startF (w := w) (S := S) (G := [Rp (Shape.slice pcS) [.slice (some a) xs.length c] xs]) (.rp h .nil)
 refine qR 8 [.c [2, 0], .c [3]] [(0, .slice (some a) xs.length c)] ?_
 refine qG (sq 0 4) ?_
 refine RW.new (κ := .seq) (d := some 5) (r := (sq 1 4)) (o := .cells #[] 72 (0, 0)) (v := fun b => .slice (some ⟨b, 0, none⟩) 0 0) (fun b => by as_aux_lemma => kernel_rfl) (nofun) H ?_
 intro b1 w2 H
 refine qP 1 (sq 2 4) [(5, .slice (some ⟨b1, 0, none⟩) 0 0), (6, .slice (some a) xs.length c)] ?_
 have H := H.toOwn (sh := pcS) (xs := []) (cap := 0) (by rfl) (Nat.le_refl _) (Nat.zero_le _) (by simp) EsP.nil
 have H : Hp w S [] [] [⟨pcS, 72, .slice (some ⟨b1, 0, none⟩) 0 0, []⟩] [Rp (Shape.slice pcS) [.slice (some a) xs.length c] xs] _ := H
 refine RW.appendW (d := some 7) (r := (sq 3 4)) (T := 70) (ty := 70) (e := 72) (m := 2) (by_ := 32) (v := .slice (some ⟨b1, 0, none⟩) 0 0) (a2 := (some a)) (l2 := xs.length) (c2 := c) (zs := xs) (by as_aux_lemma => kernel_rfl) (by as_aux_lemma => kernel_rfl) rfl H 0 rfl 0 rfl (rfl) (by omega) ?_
 intro a3 c4 w6 H hc5
 have H : Hp w S [] [] [⟨pcS, 72, .slice a3 xs.length c4, xs⟩] [Rp (Shape.slice pcS) [.slice (some a) xs.length c] xs] _ := H
 refine qF 1 [(2, .slice a3 xs.length c4)] ?_
 refine qT (.slice a3 xs.length c4) Try.func122 ?_
 exact ⟨_, rfl, H.done, H.pick [] rfl⟩

theorem pcclone_spec {S : Nat → Prop} {w : World} {xs : List Pc} {a : Option Addr} {c : Nat} (h : (Shape.slice pcS).rep S w [.slice a xs.length c] xs) (hby : xs.length * 32 ≤ 140737488355328) :
 Calls Try.prog 122 #[.slice a xs.length c] w (Ret fun v w' => Ext w w' ∧ Hp w S [] [] [⟨pcS, 72, v, xs⟩] [] w') := by
 cases a with
 | none => exact pcclone_nil h hby
 | some a => exact pcclone_some h hby

structure PsOk (ps : List Pc) (n l : Nat) : Prop where
 nd : (ps.map Pc.index).Nodup
 rng : ∀ p ∈ ps, 0 ≤ p.index ∧ p.index < (n : Int)
 len : ∀ p ∈ ps, p.data.length = l
theorem PsOk.le {ps : List Pc} {n l : Nat} (h : PsOk ps n l) : ps.length ≤ n := by
 have hsub : (ps.map fun p => p.index.toNat) ⊆ List.range n := fun x hx => by
  obtain ⟨p, hp, rfl⟩ := List.mem_map.1 hx
  have := h.rng p hp
  exact List.mem_range.2 (by omega)
 have hnd : (ps.map fun p => p.index.toNat).Nodup := by
  have h1 := h.nd
  rw [List.Nodup, List.pairwise_map] at h1 ⊢
  refine h1.imp_of_mem fun {a b} ha hb hab => ?_
  have := h.rng a ha
  have := h.rng b hb
  omega
 have hn2 : ((List.range n).filter fun x => decide (x ∈ ps.map fun p => p.index.toNat)).Nodup := List.filter_sublist.nodup List.nodup_range
 have hp := (List.perm_ext_iff_of_nodup hnd hn2).2 fun x => by
  rw [List.mem_filter, decide_eq_true_iff]
  exact ⟨fun h => ⟨hsub h, h⟩, fun h => h.2⟩
 have h1 := hp.length_eq
 have h2 := List.length_filter_le (fun x => decide (x ∈ ps.map fun p => p.index.toNat)) (List.range n)
 rw [List.length_map] at h1
 rw [List.length_range] at h2
 omega

theorem PsOk.fresh {ps : List Pc} {n l i : Nat} (h : PsOk ps n l) (hi : i < ps.length) : ¬ (ps[i]).index ∈ (ps.take i).map Pc.index := fun hm => by
 have hnd := h.nd
 obtain ⟨q, hq, he⟩ := List.mem_map.1 hm
 obtain ⟨j, hj, rfl⟩ := List.mem_iff_getElem.1 hq
 rw [List.length_take] at hj
 rw [List.getElem_take] at he
 have := (List.getElem_inj (h₀ := by rw [List.length_map]; omega) (h₁ := by rw [List.length_map]; exact hi) hnd (i := j) (j := i)).1 (by rw [List.getElem_map, List.getElem_map]; exact he)
 omega

theorem chosen_ok {S : Nat → Prop} {w : World} {ps : List Pc} {a : Option Addr} {c : Nat} (h : (Shape.slice pcS).rep S w [.slice a ps.length c] ps) {size k n : Nat} (hs : size ≤ 65536) (hk : 1 ≤ k) (hkn : k ≤ n) (hn : n ≤ 255) (hok : PsOk ps n (lenOf size k)) (hlen : k ≤ ps.length) :
 Calls Try.prog 99 #[.slice a ps.length c, .I size, .I k, .I n] w (Ret fun v w' => Ext w w' ∧ ∃ (a : Option Addr) (c : Nat) (ys : List Pc), v = .tuple #[.slice a (ys.take k).length c, .I ((lenOf size k : Nat) : Int), .I 0] ∧ ys.Perm ps ∧ ys.Pairwise (fun x y => x.index ≤ y.index) ∧ (Shape.slice pcS).rep (Nw S w) w' [.slice a (ys.take k).length c] (ys.take k)) := by
 have hpl := Shape.slice_len h
 have hple := hok.le
 refine qS (fn := Try.f99) (n := 75) (σ := [(0, .slice a ps.length c), (1, .I size), (2, .I k), (3, .I n)]) Try.func99 ?_
 have H := Hp.startF (w := w) (S := S) (G := [Rp (Shape.slice pcS) [.slice a ps.length c] ps]) (.rp h .nil)
 refine qR 3 [.c [1, 0], .c [2]] [(0, .slice a ps.length c), (1, .I size), (2, .I k), (3, .I n)] ?_
 refine qG (sq 0 9) ?_
 refine qP 3 (sq 3 9) [(0, .slice a ps.length c), (2, .I k), (3, .I n), (20, .I size), (21, .I k), (22, .I n)] ?_
 refine qK .seq (some 23) (sq 4 9) 66 #[.I size, .I k, .I n] (sizes_ok (S := fun _ => True) size k n (by omega) (by omega) (by omega) (by omega)) ?_
 rintro _ w1 hE2 rfl
 have H := H.ext hE2
 refine qF 5 [(0, .slice a ps.length c), (2, .I k), (3, .I n), (11, .I ((lenOf size k : Nat) : Int)), (12, .I 0)] ?_
 refine qR 6 [.c [3, 0], .c [4]] [(0, .slice a ps.length c), (2, .I k), (3, .I n), (11, .I ((lenOf size k : Nat) : Int))] ?_
 refine qG (sq 0 2) ?_
 refine RW.new (κ := .seq) (d := some 29) (r := (sq 1 2)) (o := mapO (Value.int .i64) (Value.int .i64) ([] : List (Int × Int × Nat)) 0) (v := fun b_ => .map (some b_)) (fun _ => by as_aux_lemma => kernel_rfl) (nofun) H ?_
 intro b3 w4 H
 refine qF 1 [(0, .slice a ps.length c), (2, .I k), (3, .I n), (11, .I ((lenOf size k : Nat) : Int)), (13, .map (some b3))] ?_
 refine qR 4 [.c [4, 0, 1, 0], .b 0, .c [5]] [(0, .slice a ps.length c), (2, .I k), (3, .I n), (11, .I ((lenOf size k : Nat) : Int)), (13, .map (some b3)), (30, .slice a ps.length c), (31, .I ((ps.length : Nat) : Int)), (32, .I 0)] ?_
 refine WK.loop (α := Nat × List (Int × Int × Nat) × Nat) (b := cd Try.prog 99 [4, 0, 1, 0, 0]) (by as_aux_lemma => kernel_rfl) (fun st_ => match st_ with | (i, L, cl) => [(0, .slice a ps.length c), (2, .I k), (3, .I n), (11, .I ((lenOf size k : Nat) : Int)), (13, .map (some b3)), (30, .slice a ps.length c), (31, .I ((ps.length : Nat) : Int)), (32, .I i)]) (fun st_ w' => match st_ with | (i, L, cl) => Hp w S [] [(b3, mapO (Value.int .i64) (Value.int .i64) L cl)] [] [Rp (Shape.slice pcS) [.slice a ps.length c] ps] w' ∧ i ≤ ps.length ∧ L.map (·.1) = (ps.take i).map Pc.index) (fun st_ => match st_ with | (i, L, cl) => ps.length - i) (0, ([] : List (Int × Int × Nat)), 0) ⟨H, Nat.zero_le _, rfl⟩ (rfl) ?_
 rintro ⟨i, L, cl⟩ w6 ⟨H, hinv0⟩ hback5
 refine qR 3 [.c [4, 0, 1, 0, 0, 1, 0], .c [4, 0, 1, 0, 0, 2], .l [4, 0, 1, 0, 0], .b 0, .c [5]] [(0, .slice a ps.length c), (2, .I k), (3, .I n), (11, .I ((lenOf size k : Nat) : Int)), (13, .map (some b3)), (30, .slice a ps.length c), (31, .I ((ps.length : Nat) : Int)), (32, .I i), (33, .bool (decide (((i : Int) : Int) < ((ps.length : Nat) : Int))))] ?_
 refine qD (((i : Int) : Int) < ((ps.length : Nat) : Int)) (fun h7 => ?_) (fun h7 => ?_)
 ·
  have hpi : ps[i] ∈ ps := List.getElem_mem (by omega)
  have hri := hok.rng _ hpi
  have hli := hok.len _ hpi
  have hfi : mfind (ps[i]).index L = none := mfind_none.2 (by rw [hinv0.2]; exact PsOk.fresh hok (by omega))
  have hfs : (mfind (ps[i]).index L).isSome = false := by rw [hfi]; rfl
  refine qR 4 [.c [4, 0, 1, 0, 0, 2, 0, 0, 0], .c [4, 0, 1, 0, 0, 2, 0, 0, 1], .b 1, .c [4, 0, 1, 0, 0, 3], .l [4, 0, 1, 0, 0], .b 0, .c [5]] [(0, .slice a ps.length c), (2, .I k), (3, .I n), (11, .I ((lenOf size k : Nat) : Int)), (13, .map (some b3)), (30, .slice a ps.length c), (31, .I ((ps.length : Nat) : Int)), (32, .I i)] ?_
  refine qG (sq 0 4) ?_
  have hx8 : i < ps.length := by omega
  refine qX .seq 34 (sq 1 4) 70 72 (i : Int) pcS (ps[i]) H 0 rfl i (by omega) (List.getElem?_eq_getElem hx8) ?_
  intro b9 o10 es11 hr12 H
  obtain ⟨a1q13, k1q13, rfl, hf14, hf15⟩ := pc_open hr12
  have H := H.add (F := Rp SB [.slice a1q13 ((ps[i]).data.length) k1q13] ((ps[i]).data)) hf15
  refine qL .seq 35 (sq 2 4) 72 b9 o10 0 (.agg #[.I ((ps[i]).index), .slice a1q13 ((ps[i]).data.length) k1q13]) (H.fc 1 rfl) ?_
  refine qB .seq 15 (sq 3 4) #[.I 0, .slice none 0 0] 72 H ?_
  intro b16 w17 H
  refine RW.store (d := none) (r := (sq 4 4)) (T := 72) (b := b16) (k := 0) (v := .agg #[.I ((ps[i]).index), .slice a1q13 ((ps[i]).data.length) k1q13]) (c' := #[.I ((ps[i]).index), .slice a1q13 ((ps[i]).data.length) k1q13]) (M' := [(b16, .cells #[.I ((ps[i]).index), .slice a1q13 ((ps[i]).data.length) k1q13] 72 (0, 0)), (b3, mapO (Value.int .i64) (Value.int .i64) L cl)]) (by as_aux_lemma => kernel_rfl) H 0 rfl (by as_aux_lemma => kernel_rfl) (by as_aux_lemma => kernel_rfl) ?_
  intro w18 H
  refine qF 0 [(0, .slice a ps.length c), (2, .I k), (3, .I n), (11, .I ((lenOf size k : Nat) : Int)), (13, .map (some b3)), (15, .P b16 0), (30, .slice a ps.length c), (31, .I ((ps.length : Nat) : Int)), (32, .I i)] ?_
  refine qR 2 [.c [4, 0, 1, 0, 0, 2, 0, 0, 1, 0, 0], .c [4, 0, 1, 0, 0, 2, 0, 0, 1, 0, 1], .c [4, 0, 1, 0, 0, 2, 0, 0, 2], .b 1, .c [4, 0, 1, 0, 0, 3], .l [4, 0, 1, 0, 0], .b 0, .c [5]] [(0, .slice a ps.length c), (2, .I k), (3, .I n), (11, .I ((lenOf size k : Nat) : Int)), (13, .map (some b3)), (15, .P b16 0), (30, .slice a ps.length c), (31, .I ((ps.length : Nat) : Int)), (32, .I i)] ?_
  refine qG (sq 0 9) ?_
  refine qP 2 (sq 2 9) [(0, .slice a ps.length c), (2, .I k), (3, .I n), (11, .I ((lenOf size k : Nat) : Int)), (13, .map (some b3)), (15, .P b16 0), (30, .slice a ps.length c), (31, .I ((ps.length : Nat) : Int)), (32, .I i), (37, .map (some b3)), (38, .P b16 0)] ?_
  refine qL .seq 39 (sq 3 9) 3 b16 0 0 (.I ((ps[i]).index)) (H.cells 0 rfl) ?_
  refine RW.mapGet (κ := .seq) (d := some 40) (r := (sq 4 9)) (T := 200) (mk := (Value.int .i64)) (vk := (Value.int .i64)) (Kt := 3) (E := 3) (z := 0) ((ps[i]).index) true (by as_aux_lemma => kernel_rfl) H 1 rfl (KeyOk.int (by as_aux_lemma => kernel_rfl)) (by as_aux_lemma => kernel_rfl) (fun w_ => zeroE_run (by as_aux_lemma => kernel_rfl) w_) ?_
  refine qF 5 [(0, .slice a ps.length c), (2, .I k), (3, .I n), (11, .I ((lenOf size k : Nat) : Int)), (13, .map (some b3)), (15, .P b16 0), (17, .bool ((mfind ((ps[i]).index) L).isSome)), (30, .slice a ps.length c), (31, .I ((ps.length : Nat) : Int)), (32, .I i)] ?_
  refine qR 1 [.c [4, 0, 1, 0, 0, 2, 0, 0, 1, 0, 1, 0], .c [4, 0, 1, 0, 0, 2, 0, 0, 1, 0, 2], .c [4, 0, 1, 0, 0, 2, 0, 0, 2], .b 1, .c [4, 0, 1, 0, 0, 3], .l [4, 0, 1, 0, 0], .b 0, .c [5]] [(0, .slice a ps.length c), (2, .I k), (3, .I n), (11, .I ((lenOf size k : Nat) : Int)), (13, .map (some b3)), (15, .P b16 0), (17, .bool ((mfind ((ps[i]).index) L).isSome)), (30, .slice a ps.length c), (31, .I ((ps.length : Nat) : Int)), (32, .I i)] ?_
  refine qG (sq 0 16) ?_
  refine qP 2 (sq 2 16) [(0, .slice a ps.length c), (2, .I k), (3, .I n), (11, .I ((lenOf size k : Nat) : Int)), (13, .map (some b3)), (15, .P b16 0), (30, .slice a ps.length c), (31, .I ((ps.length : Nat) : Int)), (32, .I i), (44, .bool ((mfind ((ps[i]).index) L).isSome))] ?_
  refine RW.test (fun b_ => [(0, .slice a ps.length c), (2, .I k), (3, .I n), (11, .I ((lenOf size k : Nat) : Int)), (13, .map (some b3)), (15, .P b16 0), (30, .slice a ps.length c), (31, .I ((ps.length : Nat) : Int)), (32, .I i), (44, .bool b_)]) ((mfind ((ps[i]).index) L).isSome) (fun h19 => ?_) (fun h19 => ?_)
  ·
   rw [hfs] at h19; cases h19
  ·
   refine qP 1 (sq 3 16) [(0, .slice a ps.length c), (2, .I k), (3, .I n), (11, .I ((lenOf size k : Nat) : Int)), (13, .map (some b3)), (15, .P b16 0), (30, .slice a ps.length c), (31, .I ((ps.length : Nat) : Int)), (32, .I i), (44, .bool false), (45, .P b16 0)] ?_
   refine qL .seq 46 (sq 4 16) 3 b16 0 0 (.I ((ps[i]).index)) (H.cells 0 rfl) ?_
   refine qP 1 (sq 5 16) [(0, .slice a ps.length c), (2, .I k), (3, .I n), (11, .I ((lenOf size k : Nat) : Int)), (13, .map (some b3)), (15, .P b16 0), (30, .slice a ps.length c), (31, .I ((ps.length : Nat) : Int)), (32, .I i), (44, .bool false), (46, .I ((ps[i]).index)), (47, .I n)] ?_
   refine qI .seq 48 (sq 6 16) ((n : Int) - 1) ?_
   refine qK .seq (some 49) (sq 7 16) 71 #[.I ((ps[i]).index), .I 0, .I ((n : Int) - 1)] (between_spec (S := fun _ => True) ((ps[i]).index) 0 ((n : Int) - 1)) ?_
   rintro _ w20 hE21 rfl
   have H := H.ext hE21
   refine qP 3 (sq 10 16) [(0, .slice a ps.length c), (2, .I k), (3, .I n), (11, .I ((lenOf size k : Nat) : Int)), (13, .map (some b3)), (15, .P b16 0), (30, .slice a ps.length c), (31, .I ((ps.length : Nat) : Int)), (32, .I i), (52, .bool (!(decide (0 ≤ (ps[i]).index ∧ (ps[i]).index ≤ (n : Int) - 1))))] ?_
   refine RW.test (fun b_ => [(0, .slice a ps.length c), (2, .I k), (3, .I n), (11, .I ((lenOf size k : Nat) : Int)), (13, .map (some b3)), (15, .P b16 0), (30, .slice a ps.length c), (31, .I ((ps.length : Nat) : Int)), (32, .I i), (52, .bool b_)]) (!(decide (0 ≤ (ps[i]).index ∧ (ps[i]).index ≤ (n : Int) - 1))) (fun h22 => ?_) (fun h22 => ?_)
   ·
    replace h22 : (decide (0 ≤ (ps[i]).index ∧ (ps[i]).index ≤ (n : Int) - 1)) = false := by revert h22; cases (decide (0 ≤ (ps[i]).index ∧ (ps[i]).index ≤ (n : Int) - 1)) <;> simp
    replace h22 := of_decide_eq_false h22
    omega
   ·
    replace h22 : (decide (0 ≤ (ps[i]).index ∧ (ps[i]).index ≤ (n : Int) - 1)) = true := by revert h22; cases (decide (0 ≤ (ps[i]).index ∧ (ps[i]).index ≤ (n : Int) - 1)) <;> simp
    replace h22 := of_decide_eq_true h22
    refine qP 1 (sq 11 16) [(0, .slice a ps.length c), (2, .I k), (3, .I n), (11, .I ((lenOf size k : Nat) : Int)), (13, .map (some b3)), (15, .P b16 0), (30, .slice a ps.length c), (31, .I ((ps.length : Nat) : Int)), (32, .I i), (52, .bool false), (53, .P b16 1)] ?_
    refine qL .seq 54 (sq 12 16) 23 b16 1 1 (.slice a1q13 ((ps[i]).data.length) k1q13) (H.cells 0 rfl) ?_
    refine qF 4 [(0, .slice a ps.length c), (2, .I k), (3, .I n), (11, .I ((lenOf size k : Nat) : Int)), (13, .map (some b3)), (15, .P b16 0), (30, .slice a ps.length c), (31, .I ((ps.length : Nat) : Int)), (32, .I i), (58, .bool ((((ps[i]).data.length : Nat) : Int) != ((lenOf size k : Nat) : Int)))] ?_
    refine qN (((ps[i]).data.length : Nat) : Int) ((lenOf size k : Nat) : Int) (fun h23 => ?_) (fun h23 => ?_)
    ·
     omega
    ·
     refine qR 1 [.c [4, 0, 1, 0, 0, 2, 0, 0, 2], .b 1, .c [4, 0, 1, 0, 0, 3], .l [4, 0, 1, 0, 0], .b 0, .c [5]] [(0, .slice a ps.length c), (2, .I k), (3, .I n), (11, .I ((lenOf size k : Nat) : Int)), (13, .map (some b3)), (15, .P b16 0), (30, .slice a ps.length c), (31, .I ((ps.length : Nat) : Int)), (32, .I i)] ?_
     refine qG (sq 0 4) ?_
     refine qP 2 (sq 2 4) [(0, .slice a ps.length c), (2, .I k), (3, .I n), (11, .I ((lenOf size k : Nat) : Int)), (13, .map (some b3)), (30, .slice a ps.length c), (31, .I ((ps.length : Nat) : Int)), (32, .I i), (59, .map (some b3)), (60, .P b16 0)] ?_
     refine qL .seq 61 (sq 3 4) 3 b16 0 0 (.I ((ps[i]).index)) (H.cells 0 rfl) ?_
     refine RW.mapSet (d := none) (r := (sq 4 4)) (T := 200) (mk := (Value.int .i64)) (vk := (Value.int .i64)) (Kt := 3) (E := 3) (M' := [(b16, .cells #[.I ((ps[i]).index), .slice a1q13 ((ps[i]).data.length) k1q13] 72 (0, 0)), (b3, mapO (Value.int .i64) (Value.int .i64) (mset ((ps[i]).index) 1 cl L) (mclk ((ps[i]).index) cl L))]) ((ps[i]).index) 1 (by as_aux_lemma => kernel_rfl) H 1 rfl (KeyOk.int (by as_aux_lemma => kernel_rfl)) (by as_aux_lemma => kernel_rfl) rfl ?_
     intro w24 hCw24 H
     refine qF 0 [(0, .slice a ps.length c), (2, .I k), (3, .I n), (11, .I ((lenOf size k : Nat) : Int)), (13, .map (some b3)), (30, .slice a ps.length c), (31, .I ((ps.length : Nat) : Int)), (32, .I i)] ?_
     refine qR 1 [.c [4, 0, 1, 0, 0, 3], .l [4, 0, 1, 0, 0], .b 0, .c [5]] [(0, .slice a ps.length c), (2, .I k), (3, .I n), (11, .I ((lenOf size k : Nat) : Int)), (13, .map (some b3)), (30, .slice a ps.length c), (31, .I ((ps.length : Nat) : Int)), (32, .I i)] ?_
     refine qG (sq 0 2) ?_
     refine qI .seq 62 (sq 1 2) ((i : Int) + 1) ?_
     refine qF 1 [(0, .slice a ps.length c), (2, .I k), (3, .I n), (11, .I ((lenOf size k : Nat) : Int)), (13, .map (some b3)), (30, .slice a ps.length c), (31, .I ((ps.length : Nat) : Int)), (32, .I ((i : Int) + 1))] ?_
     have H := H.pick [2] (G' := [Rp (Shape.slice pcS) [.slice a ps.length c] ps]) rfl
     have H := H.frontM 1 (M' := [(b3, mapO (Value.int .i64) (Value.int .i64) (mset ((ps[i]).index) 1 cl L) (mclk ((ps[i]).index) cl L)), (b16, .cells #[.I ((ps[i]).index), .slice a1q13 ((ps[i]).data.length) k1q13] 72 (0, 0))]) rfl
     have H := H.drop (M' := [(b3, mapO (Value.int .i64) (Value.int .i64) (mset ((ps[i]).index) 1 cl L) (mclk ((ps[i]).index) cl L))]) (W' := []) (by repeat (first | exact List.Sublist.refl _ | apply List.Sublist.cons_cons | apply List.Sublist.cons)) (by repeat (first | exact List.Sublist.refl _ | apply List.Sublist.cons_cons | apply List.Sublist.cons))
     exact WK.back (hback5 (i + 1, mset ((ps[i]).index) 1 cl L, mclk ((ps[i]).index) cl L) _ ⟨H, by omega, by rw [mset_keys, if_neg (by rw [hinv0.2]; exact PsOk.fresh hok (by omega)), hinv0.2, List.take_succ_eq_append_getElem (by omega), List.map_append]; rfl⟩ (by simp only []; omega)) (by as_aux_lemma => kernel_rfl)
 ·
  refine qR 4 [.c [5, 0, 1], .c [6]] [(0, .slice a ps.length c), (2, .I k), (11, .I ((lenOf size k : Nat) : Int)), (66, .bool (decide ((((ps.length : Nat) : Int) : Int) < (k : Int))))] ?_
  refine qD ((((ps.length : Nat) : Int) : Int) < (k : Int)) (fun h25 => ?_) (fun h25 => ?_)
  ·
   omega
  ·
   refine qR 2 [.c [6, 0], .c [7]] [(0, .slice a ps.length c), (2, .I k), (11, .I ((lenOf size k : Nat) : Int))] ?_
   refine qG (sq 0 3) ?_
   refine qP 1 (sq 1 3) [(2, .I k), (11, .I ((lenOf size k : Nat) : Int)), (67, .slice a ps.length c)] ?_
   refine qK .seq (some 68) (sq 2 3) 122 #[.slice a ps.length c] (pcclone_spec (H.rp 0 rfl) (by omega)) ?_
   rintro v27 w26 - H'
   have H := H.back (M1 := []) (W1 := []) H'
   obtain ⟨a28, c29, rfl, hc30, hm31⟩ := H.ownForm 0 rfl
   have H : Hp w S [] [(b3, mapO (Value.int .i64) (Value.int .i64) L cl)] [⟨pcS, 72, .slice a28 ps.length c29, ps⟩] [Rp (Shape.slice pcS) [.slice a ps.length c] ps] _ := H
   refine qF 1 [(2, .I k), (11, .I ((lenOf size k : Nat) : Int)), (18, .slice a28 ps.length c29)] ?_
   refine qR 1 [.c [7, 0], .c [8]] [(2, .I k), (11, .I ((lenOf size k : Nat) : Int)), (18, .slice a28 ps.length c29)] ?_
   refine qG (sq 0 2) ?_
   refine qP 1 (sq 1 2) [(2, .I k), (11, .I ((lenOf size k : Nat) : Int)), (18, .slice a28 ps.length c29), (69, .slice a28 ps.length c29)] ?_
   obtain ⟨pb, hpb⟩ := H.ownLit (by omega) rfl
   subst hpb
   refine RW.callS (d := some 70) (r := (sq 2 2)) (g := 123) (args := #[.slice (some ⟨pb, 0, none⟩) ps.length c29, .func (.func 124) #[] #[]]) (by as_aux_lemma => kernel_rfl) (sort_pc ((H.lend (M1 := []) (W1 := [⟨pcS, 72, .slice (some ⟨pb, 0, none⟩) ps.length c29, ps⟩])).pick [] rfl) (by omega) (by omega)) ?_
   rintro _ w32 ⟨rfl, ys, hys, hord, H'⟩
   have H := H.back (M1 := []) (W1 := [⟨pcS, 72, .slice (some ⟨pb, 0, none⟩) ps.length c29, ps⟩]) H'
   have hyl := hys.length_eq
   have H := H.reW (ys := ys) (v' := .slice (some ⟨pb, 0, none⟩) ys.length c29) rfl (by rw [hyl])
   rw [show (Value.slice (some ⟨pb, 0, none⟩) ps.length c29) = .slice (some ⟨pb, 0, none⟩) ys.length c29 by rw [hyl]]
   have H : Hp w S [] [(b3, mapO (Value.int .i64) (Value.int .i64) L cl)] [⟨pcS, 72, .slice (some ⟨pb, 0, none⟩) ys.length c29, ys⟩] [Rp (Shape.slice pcS) [.slice a ps.length c] ps] _ := H
   refine qF 0 [(2, .I k), (11, .I ((lenOf size k : Nat) : Int)), (18, .slice (some ⟨pb, 0, none⟩) ys.length c29)] ?_
   refine qR 1 [.c [8, 0], .c [9]] [(2, .I k), (11, .I ((lenOf size k : Nat) : Int)), (18, .slice (some ⟨pb, 0, none⟩) ys.length c29)] ?_
   refine qG (sq 0 7) ?_
   refine qP 2 (sq 2 7) [(11, .I ((lenOf size k : Nat) : Int)), (71, .slice (some ⟨pb, 0, none⟩) ys.length c29), (72, .I k)] ?_
   have H : Hp w S [] [(b3, mapO (Value.int .i64) (Value.int .i64) L cl)] [] [Rp (Shape.slice pcS) [.slice (some ⟨pb, 0, none⟩) ys.length c29] ys, Rp (Shape.slice pcS) [.slice a ps.length c] ps] _ := H.freezeW 0 rfl
   refine RW.slice (κ := .seq) (d := some 73) (r := (sq 3 7)) (T := 70) (e := 72) (sh := pcS) (a := (some ⟨pb, 0, none⟩)) (len := ys.length) (cap := c29) (zs := (ys.take k)) (lv := none) (hv := (some (.I k))) (by as_aux_lemma => kernel_rfl) (by as_aux_lemma => kernel_rfl) H 0 rfl 0 k .nil (.mk (by omega)) (by omega) (by omega) (by rw [List.drop_zero]) ?_
   intro a33 H
   refine qF 4 [(8, .slice a33 (ys.take k).length c29), (9, .I ((lenOf size k : Nat) : Int)), (10, .I 0)] ?_
   refine qT (.tuple #[.slice a33 (ys.take k).length c29, .I ((lenOf size k : Nat) : Int), .I 0]) Try.func99 ?_
   exact ⟨_, rfl, H.done, _, _, ys, rfl, hys, hord, H.out (H.rp 0 rfl)⟩

theorem chosen_few {S : Nat → Prop} {w : World} {ps : List Pc} {a : Option Addr} {c : Nat} (h : (Shape.slice pcS).rep S w [.slice a ps.length c] ps) {size k n : Nat} (hs : size ≤ 65536) (hk : 1 ≤ k) (hkn : k ≤ n) (hn : n ≤ 255) (hok : PsOk ps n (lenOf size k)) (hlen : ps.length < k) :
 Calls Try.prog 99 #[.slice a ps.length c, .I size, .I k, .I n] w (Ret fun v w' => Ext w w' ∧ v = .tuple #[.slice none 0 0, .I 0, .I 30]) := by
 have hpl := Shape.slice_len h
 have hple := hok.le
 refine qS (fn := Try.f99) (n := 75) (σ := [(0, .slice a ps.length c), (1, .I size), (2, .I k), (3, .I n)]) Try.func99 ?_
 have H := Hp.startF (w := w) (S := S) (G := [Rp (Shape.slice pcS) [.slice a ps.length c] ps]) (.rp h .nil)
 refine qR 3 [.c [1, 0], .c [2]] [(0, .slice a ps.length c), (1, .I size), (2, .I k), (3, .I n)] ?_
 refine qG (sq 0 9) ?_
 refine qP 3 (sq 3 9) [(0, .slice a ps.length c), (2, .I k), (3, .I n), (20, .I size), (21, .I k), (22, .I n)] ?_
 refine qK .seq (some 23) (sq 4 9) 66 #[.I size, .I k, .I n] (sizes_ok (S := fun _ => True) size k n (by omega) (by omega) (by omega) (by omega)) ?_
 rintro _ w1 hE2 rfl
 have H := H.ext hE2
 refine qF 5 [(0, .slice a ps.length c), (2, .I k), (3, .I n), (11, .I ((lenOf size k : Nat) : Int)), (12, .I 0)] ?_
 refine qR 6 [.c [3, 0], .c [4]] [(0, .slice a ps.length c), (2, .I k), (3, .I n), (11, .I ((lenOf size k : Nat) : Int))] ?_
 refine qG (sq 0 2) ?_
 refine RW.new (κ := .seq) (d := some 29) (r := (sq 1 2)) (o := mapO (Value.int .i64) (Value.int .i64) ([] : List (Int × Int × Nat)) 0) (v := fun b_ => .map (some b_)) (fun _ => by as_aux_lemma => kernel_rfl) (nofun) H ?_
 intro b3 w4 H
 refine qF 1 [(0, .slice a ps.length c), (2, .I k), (3, .I n), (11, .I ((lenOf size k : Nat) : Int)), (13, .map (some b3))] ?_
 refine qR 4 [.c [4, 0, 1, 0], .b 0, .c [5]] [(0, .slice a ps.length c), (2, .I k), (3, .I n), (11, .I ((lenOf size k : Nat) : Int)), (13, .map (some b3)), (30, .slice a ps.length c), (31, .I ((ps.length : Nat) : Int)), (32, .I 0)] ?_
 refine WK.loop (α := Nat × List (Int × Int × Nat) × Nat) (b := cd Try.prog 99 [4, 0, 1, 0, 0]) (by as_aux_lemma => kernel_rfl) (fun st_ => match st_ with | (i, L, cl) => [(0, .slice a ps.length c), (2, .I k), (3, .I n), (11, .I ((lenOf size k : Nat) : Int)), (13, .map (some b3)), (30, .slice a ps.length c), (31, .I ((ps.length : Nat) : Int)), (32, .I i)]) (fun st_ w' => match st_ with | (i, L, cl) => Hp w S [] [(b3, mapO (Value.int .i64) (Value.int .i64) L cl)] [] [Rp (Shape.slice pcS) [.slice a ps.length c] ps] w' ∧ i ≤ ps.length ∧ L.map (·.1) = (ps.take i).map Pc.index) (fun st_ => match st_ with | (i, L, cl) => ps.length - i) (0, ([] : List (Int × Int × Nat)), 0) ⟨H, Nat.zero_le _, rfl⟩ (rfl) ?_
 rintro ⟨i, L, cl⟩ w6 ⟨H, hinv0⟩ hback5
 refine qR 3 [.c [4, 0, 1, 0, 0, 1, 0], .c [4, 0, 1, 0, 0, 2], .l [4, 0, 1, 0, 0], .b 0, .c [5]] [(0, .slice a ps.length c), (2, .I k), (3, .I n), (11, .I ((lenOf size k : Nat) : Int)), (13, .map (some b3)), (30, .slice a ps.length c), (31, .I ((ps.length : Nat) : Int)), (32, .I i), (33, .bool (decide (((i : Int) : Int) < ((ps.length : Nat) : Int))))] ?_
 refine qD (((i : Int) : Int) < ((ps.length : Nat) : Int)) (fun h7 => ?_) (fun h7 => ?_)
 ·
  have hpi : ps[i] ∈ ps := List.getElem_mem (by omega)
  have hri := hok.rng _ hpi
  have hli := hok.len _ hpi
  have hfi : mfind (ps[i]).index L = none := mfind_none.2 (by rw [hinv0.2]; exact PsOk.fresh hok (by omega))
  have hfs : (mfind (ps[i]).index L).isSome = false := by rw [hfi]; rfl
  refine qR 4 [.c [4, 0, 1, 0, 0, 2, 0, 0, 0], .c [4, 0, 1, 0, 0, 2, 0, 0, 1], .b 1, .c [4, 0, 1, 0, 0, 3], .l [4, 0, 1, 0, 0], .b 0, .c [5]] [(0, .slice a ps.length c), (2, .I k), (3, .I n), (11, .I ((lenOf size k : Nat) : Int)), (13, .map (some b3)), (30, .slice a ps.length c), (31, .I ((ps.length : Nat) : Int)), (32, .I i)] ?_
  refine qG (sq 0 4) ?_
  have hx8 : i < ps.length := by omega
  refine qX .seq 34 (sq 1 4) 70 72 (i : Int) pcS (ps[i]) H 0 rfl i (by omega) (List.getElem?_eq_getElem hx8) ?_
  intro b9 o10 es11 hr12 H
  obtain ⟨a1q13, k1q13, rfl, hf14, hf15⟩ := pc_open hr12
  have H := H.add (F := Rp SB [.slice a1q13 ((ps[i]).data.length) k1q13] ((ps[i]).data)) hf15
  refine qL .seq 35 (sq 2 4) 72 b9 o10 0 (.agg #[.I ((ps[i]).index), .slice a1q13 ((ps[i]).data.length) k1q13]) (H.fc 1 rfl) ?_
  refine qB .seq 15 (sq 3 4) #[.I 0, .slice none 0 0] 72 H ?_
  intro b16 w17 H
  refine RW.store (d := none) (r := (sq 4 4)) (T := 72) (b := b16) (k := 0) (v := .agg #[.I ((ps[i]).index), .slice a1q13 ((ps[i]).data.length) k1q13]) (c' := #[.I ((ps[i]).index), .slice a1q13 ((ps[i]).data.length) k1q13]) (M' := [(b16, .cells #[.I ((ps[i]).index), .slice a1q13 ((ps[i]).data.length) k1q13] 72 (0, 0)), (b3, mapO (Value.int .i64) (Value.int .i64) L cl)]) (by as_aux_lemma => kernel_rfl) H 0 rfl (by as_aux_lemma => kernel_rfl) (by as_aux_lemma => kernel_rfl) ?_
  intro w18 H
  refine qF 0 [(0, .slice a ps.length c), (2, .I k), (3, .I n), (11, .I ((lenOf size k : Nat) : Int)), (13, .map (some b3)), (15, .P b16 0), (30, .slice a ps.length c), (31, .I ((ps.length : Nat) : Int)), (32, .I i)] ?_
  refine qR 2 [.c [4, 0, 1, 0, 0, 2, 0, 0, 1, 0, 0], .c [4, 0, 1, 0, 0, 2, 0, 0, 1, 0, 1], .c [4, 0, 1, 0, 0, 2, 0, 0, 2], .b 1, .c [4, 0, 1, 0, 0, 3], .l [4, 0, 1, 0, 0], .b 0, .c [5]] [(0, .slice a ps.length c), (2, .I k), (3, .I n), (11, .I ((lenOf size k : Nat) : Int)), (13, .map (some b3)), (15, .P b16 0), (30, .slice a ps.length c), (31, .I ((ps.length : Nat) : Int)), (32, .I i)] ?_
  refine qG (sq 0 9) ?_
  refine qP 2 (sq 2 9) [(0, .slice a ps.length c), (2, .I k), (3, .I n), (11, .I ((lenOf size k : Nat) : Int)), (13, .map (some b3)), (15, .P b16 0), (30, .slice a ps.length c), (31, .I ((ps.length : Nat) : Int)), (32, .I i), (37, .map (some b3)), (38, .P b16 0)] ?_
  refine qL .seq 39 (sq 3 9) 3 b16 0 0 (.I ((ps[i]).index)) (H.cells 0 rfl) ?_
  refine RW.mapGet (κ := .seq) (d := some 40) (r := (sq 4 9)) (T := 200) (mk := (Value.int .i64)) (vk := (Value.int .i64)) (Kt := 3) (E := 3) (z := 0) ((ps[i]).index) true (by as_aux_lemma => kernel_rfl) H 1 rfl (KeyOk.int (by as_aux_lemma => kernel_rfl)) (by as_aux_lemma => kernel_rfl) (fun w_ => zeroE_run (by as_aux_lemma => kernel_rfl) w_) ?_
  refine qF 5 [(0, .slice a ps.length c), (2, .I k), (3, .I n), (11, .I ((lenOf size k : Nat) : Int)), (13, .map (some b3)), (15, .P b16 0), (17, .bool ((mfind ((ps[i]).index) L).isSome)), (30, .slice a ps.length c), (31, .I ((ps.length : Nat) : Int)), (32, .I i)] ?_
  refine qR 1 [.c [4, 0, 1, 0, 0, 2, 0, 0, 1, 0, 1, 0], .c [4, 0, 1, 0, 0, 2, 0, 0, 1, 0, 2], .c [4, 0, 1, 0, 0, 2, 0, 0, 2], .b 1, .c [4, 0, 1, 0, 0, 3], .l [4, 0, 1, 0, 0], .b 0, .c [5]] [(0, .slice a ps.length c), (2, .I k), (3, .I n), (11, .I ((lenOf size k : Nat) : Int)), (13, .map (some b3)), (15, .P b16 0), (17, .bool ((mfind ((ps[i]).index) L).isSome)), (30, .slice a ps.length c), (31, .I ((ps.length : Nat) : Int)), (32, .I i)] ?_
  refine qG (sq 0 16) ?_
  refine qP 2 (sq 2 16) [(0, .slice a ps.length c), (2, .I k), (3, .I n), (11, .I ((lenOf size k : Nat) : Int)), (13, .map (some b3)), (15, .P b16 0), (30, .slice a ps.length c), (31, .I ((ps.length : Nat) : Int)), (32, .I i), (44, .bool ((mfind ((ps[i]).index) L).isSome))] ?_
  refine RW.test (fun b_ => [(0, .slice a ps.length c), (2, .I k), (3, .I n), (11, .I ((lenOf size k : Nat) : Int)), (13, .map (some b3)), (15, .P b16 0), (30, .slice a ps.length c), (31, .I ((ps.length : Nat) : Int)), (32, .I i), (44, .bool b_)]) ((mfind ((ps[i]).index) L).isSome) (fun h19 => ?_) (fun h19 => ?_)
  ·
   rw [hfs] at h19; cases h19
  ·
   refine qP 1 (sq 3 16) [(0, .slice a ps.length c), (2, .I k), (3, .I n), (11, .I ((lenOf size k : Nat) : Int)), (13, .map (some b3)), (15, .P b16 0), (30, .slice a ps.length c), (31, .I ((ps.length : Nat) : Int)), (32, .I i), (44, .bool false), (45, .P b16 0)] ?_
   refine qL .seq 46 (sq 4 16) 3 b16 0 0 (.I ((ps[i]).index)) (H.cells 0 rfl) ?_
   refine qP 1 (sq 5 16) [(0, .slice a ps.length c), (2, .I k), (3, .I n), (11, .I ((lenOf size k : Nat) : Int)), (13, .map (some b3)), (15, .P b16 0), (30, .slice a ps.length c), (31, .I ((ps.length : Nat) : Int)), (32, .I i), (44, .bool false), (46, .I ((ps[i]).index)), (47, .I n)] ?_
   refine qI .seq 48 (sq 6 16) ((n : Int) - 1) ?_
   refine qK .seq (some 49) (sq 7 16) 71 #[.I ((ps[i]).index), .I 0, .I ((n : Int) - 1)] (between_spec (S := fun _ => True) ((ps[i]).index) 0 ((n : Int) - 1)) ?_
   rintro _ w20 hE21 rfl
   have H := H.ext hE21
   refine qP 3 (sq 10 16) [(0, .slice a ps.length c), (2, .I k), (3, .I n), (11, .I ((lenOf size k : Nat) : Int)), (13, .map (some b3)), (15, .P b16 0), (30, .slice a ps.length c), (31, .I ((ps.length : Nat) : Int)), (32, .I i), (52, .bool (!(decide (0 ≤ (ps[i]).index ∧ (ps[i]).index ≤ (n : Int) - 1))))] ?_
   refine RW.test (fun b_ => [(0, .slice a ps.length c), (2, .I k), (3, .I n), (11, .I ((lenOf size k : Nat) : Int)), (13, .map (some b3)), (15, .P b16 0), (30, .slice a ps.length c), (31, .I ((ps.length : Nat) : Int)), (32, .I i), (52, .bool b_)]) (!(decide (0 ≤ (ps[i]).index ∧ (ps[i]).index ≤ (n : Int) - 1))) (fun h22 => ?_) (fun h22 => ?_)
   ·
    replace h22 : (decide (0 ≤ (ps[i]).index ∧ (ps[i]).index ≤ (n : Int) - 1)) = false := by revert h22; cases (decide (0 ≤ (ps[i]).index ∧ (ps[i]).index ≤ (n : Int) - 1)) <;> simp
    replace h22 := of_decide_eq_false h22
    omega
   ·
    replace h22 : (decide (0 ≤ (ps[i]).index ∧ (ps[i]).index ≤ (n : Int) - 1)) = true := by revert h22; cases (decide (0 ≤ (ps[i]).index ∧ (ps[i]).index ≤ (n : Int) - 1)) <;> simp
    replace h22 := of_decide_eq_true h22
    refine qP 1 (sq 11 16) [(0, .slice a ps.length c), (2, .I k), (3, .I n), (11, .I ((lenOf size k : Nat) : Int)), (13, .map (some b3)), (15, .P b16 0), (30, .slice a ps.length c), (31, .I ((ps.length : Nat) : Int)), (32, .I i), (52, .bool false), (53, .P b16 1)] ?_
    refine qL .seq 54 (sq 12 16) 23 b16 1 1 (.slice a1q13 ((ps[i]).data.length) k1q13) (H.cells 0 rfl) ?_
    refine qF 4 [(0, .slice a ps.length c), (2, .I k), (3, .I n), (11, .I ((lenOf size k : Nat) : Int)), (13, .map (some b3)), (15, .P b16 0), (30, .slice a ps.length c), (31, .I ((ps.length : Nat) : Int)), (32, .I i), (58, .bool ((((ps[i]).data.length : Nat) : Int) != ((lenOf size k : Nat) : Int)))] ?_
    refine qN (((ps[i]).data.length : Nat) : Int) ((lenOf size k : Nat) : Int) (fun h23 => ?_) (fun h23 => ?_)
    ·
     omega
    ·
     refine qR 1 [.c [4, 0, 1, 0, 0, 2, 0, 0, 2], .b 1, .c [4, 0, 1, 0, 0, 3], .l [4, 0, 1, 0, 0], .b 0, .c [5]] [(0, .slice a ps.length c), (2, .I k), (3, .I n), (11, .I ((lenOf size k : Nat) : Int)), (13, .map (some b3)), (15, .P b16 0), (30, .slice a ps.length c), (31, .I ((ps.length : Nat) : Int)), (32, .I i)] ?_
     refine qG (sq 0 4) ?_
     refine qP 2 (sq 2 4) [(0, .slice a ps.length c), (2, .I k), (3, .I n), (11, .I ((lenOf size k : Nat) : Int)), (13, .map (some b3)), (30, .slice a ps.length c), (31, .I ((ps.length : Nat) : Int)), (32, .I i), (59, .map (some b3)), (60, .P b16 0)] ?_
     refine qL .seq 61 (sq 3 4) 3 b16 0 0 (.I ((ps[i]).index)) (H.cells 0 rfl) ?_
     refine RW.mapSet (d := none) (r := (sq 4 4)) (T := 200) (mk := (Value.int .i64)) (vk := (Value.int .i64)) (Kt := 3) (E := 3) (M' := [(b16, .cells #[.I ((ps[i]).index), .slice a1q13 ((ps[i]).data.length) k1q13] 72 (0, 0)), (b3, mapO (Value.int .i64) (Value.int .i64) (mset ((ps[i]).index) 1 cl L) (mclk ((ps[i]).index) cl L))]) ((ps[i]).index) 1 (by as_aux_lemma => kernel_rfl) H 1 rfl (KeyOk.int (by as_aux_lemma => kernel_rfl)) (by as_aux_lemma => kernel_rfl) rfl ?_
     intro w24 hCw24 H
     refine qF 0 [(0, .slice a ps.length c), (2, .I k), (3, .I n), (11, .I ((lenOf size k : Nat) : Int)), (13, .map (some b3)), (30, .slice a ps.length c), (31, .I ((ps.length : Nat) : Int)), (32, .I i)] ?_
     refine qR 1 [.c [4, 0, 1, 0, 0, 3], .l [4, 0, 1, 0, 0], .b 0, .c [5]] [(0, .slice a ps.length c), (2, .I k), (3, .I n), (11, .I ((lenOf size k : Nat) : Int)), (13, .map (some b3)), (30, .slice a ps.length c), (31, .I ((ps.length : Nat) : Int)), (32, .I i)] ?_
     refine qG (sq 0 2) ?_
     refine qI .seq 62 (sq 1 2) ((i : Int) + 1) ?_
     refine qF 1 [(0, .slice a ps.length c), (2, .I k), (3, .I n), (11, .I ((lenOf size k : Nat) : Int)), (13, .map (some b3)), (30, .slice a ps.length c), (31, .I ((ps.length : Nat) : Int)), (32, .I ((i : Int) + 1))] ?_
     have H := H.pick [2] (G' := [Rp (Shape.slice pcS) [.slice a ps.length c] ps]) rfl
     have H := H.frontM 1 (M' := [(b3, mapO (Value.int .i64) (Value.int .i64) (mset ((ps[i]).index) 1 cl L) (mclk ((ps[i]).index) cl L)), (b16, .cells #[.I ((ps[i]).index), .slice a1q13 ((ps[i]).data.length) k1q13] 72 (0, 0))]) rfl
     have H := H.drop (M' := [(b3, mapO (Value.int .i64) (Value.int .i64) (mset ((ps[i]).index) 1 cl L) (mclk ((ps[i]).index) cl L))]) (W' := []) (by repeat (first | exact List.Sublist.refl _ | apply List.Sublist.cons_cons | apply List.Sublist.cons)) (by repeat (first | exact List.Sublist.refl _ | apply List.Sublist.cons_cons | apply List.Sublist.cons))
     exact WK.back (hback5 (i + 1, mset ((ps[i]).index) 1 cl L, mclk ((ps[i]).index) cl L) _ ⟨H, by omega, by rw [mset_keys, if_neg (by rw [hinv0.2]; exact PsOk.fresh hok (by omega)), hinv0.2, List.take_succ_eq_append_getElem (by omega), List.map_append]; rfl⟩ (by simp only []; omega)) (by as_aux_lemma => kernel_rfl)
 ·
  refine qR 4 [.c [5, 0, 1], .c [6]] [(0, .slice a ps.length c), (2, .I k), (11, .I ((lenOf size k : Nat) : Int)), (66, .bool (decide ((((ps.length : Nat) : Int) : Int) < (k : Int))))] ?_
  refine qD ((((ps.length : Nat) : Int) : Int) < (k : Int)) (fun h25 => ?_) (fun h25 => ?_)
  ·
   refine qR 2 [.c [5, 0, 1, 0, 1], .c [6]] [(8, .slice none 0 0), (9, .I 0), (10, .I 30)] ?_
   refine qT (.tuple #[.slice none 0 0, .I 0, .I 30]) Try.func99 ?_
   exact ⟨_, rfl, H.done, rfl⟩
  ·
   omega


end Go.Proofs.Ytppcdmbkgficiaa
