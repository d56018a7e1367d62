import Derived.Test.YtekgjnblidjloaaA1
namespace Go.Proofs.Ytekgjnblidjloaa
open Go.BX

set_option maxHeartbeats 2000000 in
theorem apart_spec {S : Nat → Prop} {w : World} {xs : List (BitVec 8)} {ls : List Act} {a la : Option Addr} {ca lk : Nat} (h1 : SB.rep S w [.slice a xs.length ca] xs) (h2 : (Shape.slice actS).rep S w [.slice la ls.length lk] ls) :
 Calls Try.prog 4 #[.slice a xs.length ca, .slice la ls.length lk] w (Ret fun v w' => Ext w w' ∧ v = .bool true) := by
 have hxl := Shape.slice_len h1
 have hll9 := Shape.slice_len h2
 refine qS (fn := Try.f4) (n := 120) (σ := [(0, .slice a xs.length ca), (1, .slice la ls.length lk)]) Try.func4 ?_
 have H := Hp.startF (w := w) (S := S) (G := [Rp SB [.slice a xs.length ca] xs, Rp (Shape.slice actS) [.slice la ls.length lk] ls]) (.rp h1 (.rp h2 .nil))
 refine qR 3 [.c [1, 0], .c [2]] [(0, .slice a xs.length ca), (1, .slice la ls.length lk)] ?_
 refine qG (sq 0 2) ?_
 refine qK .seq (some 15) (sq 1 2) 7 #[] (new_spec (S := Av S w [] (idsOf [] []))) ?_
 rintro _ w1 - ⟨db2, x3, y4, rfl, H'⟩
 have H := H.back (M1 := []) (W1 := []) H'
 have H := H.perms (M' := ((diskM db2 (newD x3 y4) none 0))) (W' := [⟨stepS, 67, .slice none ((newD x3 y4).steps.length) 0, (newD x3 y4).steps⟩]) ((List.perm_append_comm (l₁ := diskM db2 (newD x3 y4) none 0) (l₂ := ([] : Heap))).symm) (List.Perm.refl _)
 have H : Hp w S [] ((diskM db2 (newD x3 y4) none 0)) [⟨stepS, 67, .slice none ((newD x3 y4).steps.length) 0, (newD x3 y4).steps⟩] [Rp SB [.slice a xs.length ca] xs, Rp (Shape.slice actS) [.slice la ls.length lk] ls] _ := H
 have hokdb2 : DOk (newD x3 y4) := newD_ok x3 y4
 refine qF 1 [(0, .slice a xs.length ca), (1, .slice la ls.length lk), (5, .P db2 0)] ?_
 refine qR 1 [.c [2, 0], .c [3]] [(0, .slice a xs.length ca), (1, .slice la ls.length lk), (5, .P db2 0)] ?_
 refine qG (sq 0 2) ?_
 refine RW.makeW Sb (κ := .seq) (d := some 16) (r := (sq 1 2)) (T := 24) (e := 5) (by_ := 1) (v0 := .int .u8 0) (0#8 : BitVec 8) (kl := .i64) (kc := .i64) (lv := 64) (cv := 64) (by as_aux_lemma => kernel_rfl) (nofun) (by as_aux_lemma => kernel_rfl) rfl H 64 64 (by omega) (by omega) (by omega) (by omega) (by omega) (fun _ _ => rfl) ?_
 intro b5 w6 H
 have H : Hp w S [] ((diskM db2 (newD x3 y4) none 0)) [⟨Sb, 5, .slice (some ⟨b5, 0, none⟩) 64 64, (List.replicate 64 (0#8 : BitVec 8))⟩, ⟨stepS, 67, .slice none ((newD x3 y4).steps.length) 0, (newD x3 y4).steps⟩] [Rp SB [.slice a xs.length ca] xs, Rp (Shape.slice actS) [.slice la ls.length lk] ls] _ := H
 refine qF 1 [(0, .slice a xs.length ca), (1, .slice la ls.length lk), (5, .P db2 0), (6, .slice (some ⟨b5, 0, none⟩) 64 64)] ?_
 refine qR 4 [.c [3, 0, 1, 0], .b 0, .c [4]] [(0, .slice a xs.length ca), (1, .slice la ls.length lk), (5, .P db2 0), (6, .slice (some ⟨b5, 0, none⟩) 64 64), (7, .I 0)] ?_
 rw [padTo_zero xs] at H
 have H : Hp w S [] ((diskM db2 (newD x3 y4) none 0)) [⟨Sb, 5, .slice (some ⟨b5, 0, none⟩) 64 64, (padTo xs 0)⟩, ⟨stepS, 67, .slice none ((newD x3 y4).steps.length) 0, (newD x3 y4).steps⟩] [Rp SB [.slice a xs.length ca] xs, Rp (Shape.slice actS) [.slice la ls.length lk] ls] _ := H
 refine WK.loop (α := Nat) (b := cd Try.prog 4 [3, 0, 1, 0, 0]) (by as_aux_lemma => kernel_rfl) (fun k => [(0, .slice a xs.length ca), (1, .slice la ls.length lk), (5, .P db2 0), (6, .slice (some ⟨b5, 0, none⟩) 64 64), (7, .I k)]) (fun k w' => Hp w S [] ((diskM db2 (newD x3 y4) none 0)) [⟨Sb, 5, .slice (some ⟨b5, 0, none⟩) 64 64, (padTo xs k)⟩, ⟨stepS, 67, .slice none ((newD x3 y4).steps.length) 0, (newD x3 y4).steps⟩] [Rp SB [.slice a xs.length ca] xs, Rp (Shape.slice actS) [.slice la ls.length lk] ls] w' ∧ k ≤ 64) (fun k => 64 - k) 0 ⟨H, by omega⟩ (rfl) ?_
 rintro k w8 ⟨H, hk⟩ hback7
 refine qR 2 [.c [3, 0, 1, 0, 0, 0, 0], .c [3, 0, 1, 0, 0, 0, 1], .c [3, 0, 1, 0, 0, 1], .l [3, 0, 1, 0, 0], .b 0, .c [4]] [(0, .slice a xs.length ca), (1, .slice la ls.length lk), (5, .P db2 0), (6, .slice (some ⟨b5, 0, none⟩) 64 64), (7, .I k)] ?_
 refine qG (sq 0 8) ?_
 refine qP 3 (sq 3 8) [(0, .slice a xs.length ca), (1, .slice la ls.length lk), (5, .P db2 0), (6, .slice (some ⟨b5, 0, none⟩) 64 64), (7, .I k), (19, .bool (decide (((k : Int) : Int) < 64)))] ?_
 refine tD (fun b_ => [(0, .slice a xs.length ca), (1, .slice la ls.length lk), (5, .P db2 0), (6, .slice (some ⟨b5, 0, none⟩) 64 64), (7, .I k), (19, .bool b_)]) (((k : Int) : Int) < 64) (fun h9 => ?_) (fun h9 => ?_)
 ·
  refine qF 5 [(0, .slice a xs.length ca), (1, .slice la ls.length lk), (5, .P db2 0), (6, .slice (some ⟨b5, 0, none⟩) 64 64), (7, .I k), (24, .bool (decide (((k : Int) : Int) < ((xs.length : Nat) : Int))))] ?_
  refine qD (((k : Int) : Int) < ((xs.length : Nat) : Int)) (fun h10 => ?_) (fun h10 => ?_)
  ·
   refine qR 3 [.c [3, 0, 1, 0, 0, 1, 0, 0], .b 1, .c [3, 0, 1, 0, 0, 2], .l [3, 0, 1, 0, 0], .b 0, .c [4]] [(0, .slice a xs.length ca), (1, .slice la ls.length lk), (5, .P db2 0), (6, .slice (some ⟨b5, 0, none⟩) 64 64), (7, .I k)] ?_
   refine qG (sq 0 8) ?_
   refine qP 4 (sq 4 8) [(0, .slice a xs.length ca), (1, .slice la ls.length lk), (5, .P db2 0), (6, .slice (some ⟨b5, 0, none⟩) 64 64), (7, .I k), (27, .slice (some ⟨b5, 0, none⟩) 64 64), (28, .I k), (29, .slice a xs.length ca), (30, .I k)] ?_
   have hx11 : k < xs.length := by omega
   refine qX .seq 31 (sq 5 8) 24 5 (k : Int) Sb (xs[k]) H 0 rfl k (by omega) (List.getElem?_eq_getElem hx11) ?_
   intro b12 o13 es14 hr15 H
   obtain rfl := hr15
   refine qL .seq 32 (sq 6 8) 5 b12 o13 0 (.int .u8 (((xs[k]).toNat : Nat) : Int)) (H.fc 0 rfl) ?_
   have hn17 : 64 = (padTo xs k).length := by rw [padTo_len]
   have hx16 : k < (padTo xs k).length := by rw [padTo_len]; omega
   refine RW.indexW (κ := .seq) (d := some 33) (r := (sq 7 8)) (T := 24) (e := 5) (m := 1) (ik := .i64) (ix := (k : Int)) (sh := Sb) (xs := (padTo xs k)) (a := (some ⟨b5, 0, none⟩)) (len := 64) (cap := 64) (by as_aux_lemma => kernel_rfl) (by as_aux_lemma => kernel_rfl) rfl H k (by omega) hx16 hn17 ?_
   intro b18 es19 ha20 hcell21 hr22
   obtain rfl := hr22
   refine RW.storeW (d := none) (r := (sq 8 8)) (e := 5) (m := 1) (b := b18) (k := k) (v := .int .u8 (((xs[k]).toNat : Nat) : Int)) (by as_aux_lemma => kernel_rfl) rfl (by as_aux_lemma => kernel_rfl) H ha20 hx16 hn17 (xs[k]) Shape.bv_mk ?_
   intro w23 H
   have H := H.reW (ys := (padTo xs (k + 1))) (padTo_step (by omega))
   refine qF 0 [(0, .slice a xs.length ca), (1, .slice la ls.length lk), (5, .P db2 0), (6, .slice (some ⟨b5, 0, none⟩) 64 64), (7, .I k)] ?_
   refine qR 1 [.c [3, 0, 1, 0, 0, 2], .l [3, 0, 1, 0, 0], .b 0, .c [4]] [(0, .slice a xs.length ca), (1, .slice la ls.length lk), (5, .P db2 0), (6, .slice (some ⟨b5, 0, none⟩) 64 64), (7, .I k)] ?_
   refine qG (sq 0 3) ?_
   refine qP 1 (sq 1 3) [(0, .slice a xs.length ca), (1, .slice la ls.length lk), (5, .P db2 0), (6, .slice (some ⟨b5, 0, none⟩) 64 64), (7, .I k), (25, .I k)] ?_
   refine qI .seq 26 (sq 2 3) ((k : Int) + 1) ?_
   refine qF 1 [(0, .slice a xs.length ca), (1, .slice la ls.length lk), (5, .P db2 0), (6, .slice (some ⟨b5, 0, none⟩) 64 64), (7, .I ((k : Int) + 1))] ?_
   have H := H.pick [1, 2] rfl
   exact WK.back (hback7 (k + 1) _ ⟨H, by omega⟩ (by first | omega | (simp only []; omega))) (by as_aux_lemma => kernel_rfl)
  ·
   refine qR 3 [.c [4, 0, 0], .c [4, 0, 1], .c [5]] [(1, .slice la ls.length lk), (5, .P db2 0), (6, .slice (some ⟨b5, 0, none⟩) 64 64)] ?_
   refine qG (sq 0 13) ?_
   refine qP 5 (sq 5 13) [(1, .slice la ls.length lk), (5, .P db2 0), (6, .slice (some ⟨b5, 0, none⟩) 64 64), (36, .bool false), (37, .P db2 0), (38, .slice (some ⟨b5, 0, none⟩) 64 64)] ?_
   have H : Hp w S [] ((diskM db2 (newD x3 y4) none 0)) [⟨stepS, 67, .slice none ((newD x3 y4).steps.length) 0, (newD x3 y4).steps⟩] [Rp SB [.slice (some ⟨b5, 0, none⟩) 64 64] (padTo xs k), Rp SB [.slice a xs.length ca] xs, Rp (Shape.slice actS) [.slice la ls.length lk] ls] _ := H.freezeW 0 rfl
   have H := H.perms (M' := diskM db2 (newD x3 y4) none 0 ++ []) (W' := [⟨stepS, 67, .slice none ((newD x3 y4).steps.length) 0, (newD x3 y4).steps⟩]) (List.perm_append_comm (l₁ := diskM db2 (newD x3 y4) none 0) (l₂ := ([] : Heap))) (List.Perm.refl _)
   refine RW.callS (d := some 39) (r := (sq 6 13)) (g := 8) (args := #[.P db2 0, .string (⟨#[122, 122, 57]⟩ : ByteArray), .I 1, .slice (some ⟨b5, 0, none⟩) 64 64]) (by as_aux_lemma => kernel_rfl) (dWriteN (hokdb2) (Nat.zero_le _) (rfl) (fun h => by cases h) (by first | assumption | decide | (simp [maxLen]; done)) (by decide) (xs := (padTo xs k)) (padTo_len _ _) ((H.lend (M1 := diskM db2 (newD x3 y4) none 0) (W1 := [⟨stepS, 67, .slice none ((newD x3 y4).steps.length) 0, (newD x3 y4).steps⟩])).pick [0] rfl)) ?_
   rintro _ w24 ⟨D25, sa26, sk27, ⟨e28, rfl, hR29⟩, H'⟩
   have H := H.back (M1 := diskM db2 (newD x3 y4) none 0) (W1 := [⟨stepS, 67, .slice none ((newD x3 y4).steps.length) 0, (newD x3 y4).steps⟩]) H'
   have H := H.perms (M' := ((diskM db2 D25 sa26 sk27))) (W' := [⟨stepS, 67, .slice sa26 D25.steps.length sk27, D25.steps⟩]) ((List.perm_append_comm (l₁ := diskM db2 D25 sa26 sk27) (l₂ := ([] : Heap))).symm) (List.Perm.refl _)
   have H : Hp w S [] ((diskM db2 D25 sa26 sk27)) [⟨stepS, 67, .slice sa26 D25.steps.length sk27, D25.steps⟩] [Rp SB [.slice (some ⟨b5, 0, none⟩) 64 64] (padTo xs k), Rp SB [.slice a xs.length ca] xs, Rp (Shape.slice actS) [.slice la ls.length lk] ls] _ := H
   have hR29 : WriteR (newD x3 y4) (⟨#[122, 122, 57]⟩ : ByteArray) 1 (padTo xs k) e28 D25 := hR29
   obtain ⟨he1, hJ0, hD0⟩ := Apart.first (by decide) nm_z (padTo_len _ _) hR29
   subst he1
   refine qF 7 [(1, .slice la ls.length lk), (5, .P db2 0), (6, .slice (some ⟨b5, 0, none⟩) 64 64), (46, .bool (decide ((((ls.length : Nat) : Int) : Int) > 200)))] ?_
   refine qD ((((ls.length : Nat) : Int) : Int) > 200) (fun h30 => ?_) (fun h30 => ?_)
   ·
    refine qR 2 [.c [4, 0, 1, 0, 1], .c [5]] [(4, .bool (decide ((((ls.length : Nat) : Int) : Int) > 200)))] ?_
    refine qT (.bool (decide ((((ls.length : Nat) : Int) : Int) > 200))) Try.func4 ?_
    refine ⟨_, rfl, H.done, ?_⟩
    congr 1
    exact decide_eq_true (by omega)
   ·
    refine qR 5 [.c [5, 0, 1, 0], .b 2, .c [6]] [(1, .slice la ls.length lk), (5, .P db2 0), (6, .slice (some ⟨b5, 0, none⟩) 64 64), (8, .I 0)] ?_
    refine WK.loop (α := Nat) (b := cd Try.prog 4 [5, 0, 1, 0, 0]) (by as_aux_lemma => kernel_rfl) (fun i => [(1, .slice la ls.length lk), (5, .P db2 0), (6, .slice (some ⟨b5, 0, none⟩) 64 64), (8, .I i)]) (fun i w' => Hp w S [] ((diskM db2 D25 sa26 sk27)) [⟨stepS, 67, .slice sa26 D25.steps.length sk27, D25.steps⟩] [Rp SB [.slice (some ⟨b5, 0, none⟩) 64 64] (padTo xs k), Rp SB [.slice a xs.length ca] xs, Rp (Shape.slice actS) [.slice la ls.length lk] ls] w' ∧ i ≤ ls.length ∧ ∀ y ∈ ls.take i, y.name ≠ (⟨#[122, 122, 57]⟩ : ByteArray) ∧ y.to ≠ (⟨#[122, 122, 57]⟩ : ByteArray)) (fun i => ls.length - i) 0 ⟨H, Nat.zero_le _, by simp⟩ (rfl) ?_
    rintro i w32 ⟨H, ⟨hi, hnames⟩⟩ hback31
    refine qR 3 [.c [5, 0, 1, 0, 0, 0, 1], .c [5, 0, 1, 0, 0, 1], .l [5, 0, 1, 0, 0], .b 2, .c [6]] [(1, .slice la ls.length lk), (5, .P db2 0), (6, .slice (some ⟨b5, 0, none⟩) 64 64), (8, .I i), (57, .bool (decide (((i : Int) : Int) < ((ls.length : Nat) : Int))))] ?_
    refine qD (((i : Int) : Int) < ((ls.length : Nat) : Int)) (fun h33 => ?_) (fun h33 => ?_)
    ·
     refine qR 4 [.c [5, 0, 1, 0, 0, 1, 0, 0, 0], .c [5, 0, 1, 0, 0, 1, 0, 0, 1], .b 3, .c [5, 0, 1, 0, 0, 2], .l [5, 0, 1, 0, 0], .b 2, .c [6]] [(1, .slice la ls.length lk), (5, .P db2 0), (6, .slice (some ⟨b5, 0, none⟩) 64 64), (8, .I i)] ?_
     refine qG (sq 0 14) ?_
     refine qP 2 (sq 2 14) [(1, .slice la ls.length lk), (5, .P db2 0), (6, .slice (some ⟨b5, 0, none⟩) 64 64), (8, .I i), (60, .slice la ls.length lk), (61, .I i)] ?_
     have hx34 : i < ls.length := by omega
     refine qX .seq 62 (sq 3 14) 38 40 (i : Int) actS (ls[i]) H 2 rfl i (by omega) (List.getElem?_eq_getElem hx34) ?_
     intro b35 o36 es37 hr38 H
     obtain ⟨a4q39, k4q39, rfl, hf40, hf41, hf42, hf43, hf44⟩ := act_open hr38
     have H := H.add (F := Rp SB [.slice a4q39 ((ls[i]).data.length) k4q39] ((ls[i]).data)) hf44
     refine qP 1 (sq 4 14) [(1, .slice la ls.length lk), (5, .P db2 0), (6, .slice (some ⟨b5, 0, none⟩) 64 64), (8, .I i), (63, .pointer (some ⟨b35, o36 + 1, none⟩))] ?_
     refine qL .seq 64 (sq 5 14) 9 b35 (o36 + 1) 1 (.string ((ls[i]).name)) (H.fc 1 rfl) ?_
     refine qP 2 (sq 7 14) [(1, .slice la ls.length lk), (5, .P db2 0), (6, .slice (some ⟨b5, 0, none⟩) 64 64), (8, .I i), (66, .bool (((ls[i]).name).toList == (⟨#[122, 122, 57]⟩ : ByteArray).toList))] ?_
     refine tE (fun b_ => [(1, .slice la ls.length lk), (5, .P db2 0), (6, .slice (some ⟨b5, 0, none⟩) 64 64), (8, .I i), (66, .bool b_)]) (((ls[i]).name).toList) ((⟨#[122, 122, 57]⟩ : ByteArray).toList) (fun h45 => ?_) (fun h45 => ?_)
     ·
      refine qF 7 [(1, .slice la ls.length lk), (5, .P db2 0), (6, .slice (some ⟨b5, 0, none⟩) 64 64), (8, .I i), (73, .bool true)] ?_
      refine qR 2 [.c [5, 0, 1, 0, 0, 1, 0, 0, 1, 0, 0], .c [5, 0, 1, 0, 0, 1, 0, 0, 1, 0, 1], .b 3, .c [5, 0, 1, 0, 0, 2], .l [5, 0, 1, 0, 0], .b 2, .c [6]] [] ?_
      refine qG (sq 0 2) ?_
      refine qK .seq (some 74) (sq 1 2) 12 #[] (heads_spec (S := fun _ => True)) ?_
      rintro _ w46 hE47 rfl
      have H := H.ext hE47
      refine qF 1 [(4, .bool true)] ?_
      refine qT (.bool true) Try.func4 ?_
      exact ⟨_, rfl, H.done, rfl⟩
     ·
      refine qP 2 (sq 9 14) [(1, .slice la ls.length lk), (5, .P db2 0), (6, .slice (some ⟨b5, 0, none⟩) 64 64), (8, .I i), (66, .bool false), (67, .slice la ls.length lk), (68, .I i)] ?_
      have hx48 : i < ls.length := by omega
      refine qX .seq 69 (sq 10 14) 38 40 (i : Int) actS (ls[i]) H 4 rfl i (by omega) (List.getElem?_eq_getElem hx48) ?_
      intro b49 o50 es51 hr52 H
      obtain ⟨a4q53, k4q53, rfl, hf54, hf55, hf56, hf57, hf58⟩ := act_open hr52
      have H := H.add (F := Rp SB [.slice a4q53 ((ls[i]).data.length) k4q53] ((ls[i]).data)) hf58
      refine qP 1 (sq 11 14) [(1, .slice la ls.length lk), (5, .P db2 0), (6, .slice (some ⟨b5, 0, none⟩) 64 64), (8, .I i), (66, .bool false), (70, .pointer (some ⟨b49, o50 + 2, none⟩))] ?_
      refine qL .seq 71 (sq 12 14) 9 b49 (o50 + 2) 2 (.string ((ls[i]).to)) (H.fc 1 rfl) ?_
      refine qF 2 [(1, .slice la ls.length lk), (5, .P db2 0), (6, .slice (some ⟨b5, 0, none⟩) 64 64), (8, .I i), (73, .bool (((ls[i]).to).toList == (⟨#[122, 122, 57]⟩ : ByteArray).toList))] ?_
      refine qE (((ls[i]).to).toList) ((⟨#[122, 122, 57]⟩ : ByteArray).toList) (fun h59 => ?_) (fun h59 => ?_)
      ·
       refine qR 1 [.c [5, 0, 1, 0, 0, 1, 0, 0, 1, 0, 0], .c [5, 0, 1, 0, 0, 1, 0, 0, 1, 0, 1], .b 3, .c [5, 0, 1, 0, 0, 2], .l [5, 0, 1, 0, 0], .b 2, .c [6]] [] ?_
       refine qG (sq 0 2) ?_
       refine qK .seq (some 74) (sq 1 2) 12 #[] (heads_spec (S := fun _ => True)) ?_
       rintro _ w60 hE61 rfl
       have H := H.ext hE61
       refine qF 1 [(4, .bool true)] ?_
       refine qT (.bool true) Try.func4 ?_
       exact ⟨_, rfl, H.done, rfl⟩
      ·
       refine qR 2 [.c [5, 0, 1, 0, 0, 2], .l [5, 0, 1, 0, 0], .b 2, .c [6]] [(1, .slice la ls.length lk), (5, .P db2 0), (6, .slice (some ⟨b5, 0, none⟩) 64 64), (8, .I i)] ?_
       refine qG (sq 0 3) ?_
       refine qP 1 (sq 1 3) [(1, .slice la ls.length lk), (5, .P db2 0), (6, .slice (some ⟨b5, 0, none⟩) 64 64), (8, .I i), (58, .I i)] ?_
       refine qI .seq 59 (sq 2 3) ((i : Int) + 1) ?_
       refine qF 1 [(1, .slice la ls.length lk), (5, .P db2 0), (6, .slice (some ⟨b5, 0, none⟩) 64 64), (8, .I ((i : Int) + 1))] ?_
       have hstep : ∀ y ∈ ls.take (i + 1), y.name ≠ (⟨#[122, 122, 57]⟩ : ByteArray) ∧ y.to ≠ (⟨#[122, 122, 57]⟩ : ByteArray) := by
        intro y hy
        rw [take_snoc hx48] at hy
        rcases List.mem_append.1 hy with hy | hy
        · exact hnames y hy
        · rw [List.mem_singleton.1 hy]; exact ⟨fun e => h45 (by rw [e]), fun e => h59 (by rw [e])⟩
       have H := H.pick [4, 5, 6] rfl
       exact WK.back (hback31 (i + 1) _ ⟨H, by omega, hstep⟩ (by first | omega | (simp only []; omega))) (by as_aux_lemma => kernel_rfl)
    ·
     refine qR 2 [.c [6, 0], .c [7]] [(1, .slice la ls.length lk), (5, .P db2 0), (6, .slice (some ⟨b5, 0, none⟩) 64 64)] ?_
     refine qG (sq 0 3) ?_
     refine qP 2 (sq 2 3) [(5, .P db2 0), (6, .slice (some ⟨b5, 0, none⟩) 64 64), (75, .P db2 0), (76, .slice la ls.length lk)] ?_
     have H := H.perms (M' := diskM db2 D25 sa26 sk27 ++ []) (W' := [⟨stepS, 67, .slice sa26 D25.steps.length sk27, D25.steps⟩]) (List.perm_append_comm (l₁ := diskM db2 D25 sa26 sk27) (l₂ := ([] : Heap))) (List.Perm.refl _)
     refine RW.callS (d := some 77) (r := (sq 3 3)) (g := 15) (args := #[.P db2 0, .slice la ls.length lk]) (by as_aux_lemma => kernel_rfl) (play_apart hJ0 (by omega) (by rw [← List.take_of_length_le (show ls.length ≤ i by omega)]; exact hnames) hD0 ((H.lend (M1 := diskM db2 D25 sa26 sk27) (W1 := [⟨stepS, 67, .slice sa26 D25.steps.length sk27, D25.steps⟩])).pick [2] rfl)) ?_
     rintro _ w62 ⟨rfl, D63, sa64, sk65, hJ, H'⟩
     have H := H.back (M1 := diskM db2 D25 sa26 sk27) (W1 := [⟨stepS, 67, .slice sa26 D25.steps.length sk27, D25.steps⟩]) H'
     have H := H.perms (M' := ((diskM db2 D63 sa64 sk65))) (W' := [⟨stepS, 67, .slice sa64 D63.steps.length sk65, D63.steps⟩]) ((List.perm_append_comm (l₁ := diskM db2 D63 sa64 sk65) (l₂ := ([] : Heap))).symm) (List.Perm.refl _)
     have H : Hp w S [] ((diskM db2 D63 sa64 sk65)) [⟨stepS, 67, .slice sa64 D63.steps.length sk65, D63.steps⟩] [Rp SB [.slice (some ⟨b5, 0, none⟩) 64 64] (padTo xs k), Rp SB [.slice a xs.length ca] xs, Rp (Shape.slice actS) [.slice la ls.length lk] ls] _ := H
     obtain ⟨ff, hff, hfn, -, hfs, hf1, hf0⟩ := hJ.file
     refine qF 0 [(5, .P db2 0), (6, .slice (some ⟨b5, 0, none⟩) 64 64)] ?_
     refine qR 1 [.c [7, 0], .c [8]] [(5, .P db2 0), (6, .slice (some ⟨b5, 0, none⟩) 64 64)] ?_
     refine qG (sq 0 7) ?_
     refine qP 1 (sq 1 7) [(5, .P db2 0), (6, .slice (some ⟨b5, 0, none⟩) 64 64), (79, .P db2 0)] ?_
     have H := H.perms (M' := diskM db2 D63 sa64 sk65 ++ []) (W' := [⟨stepS, 67, .slice sa64 D63.steps.length sk65, D63.steps⟩]) (List.perm_append_comm (l₁ := diskM db2 D63 sa64 sk65) (l₂ := ([] : Heap))) (List.Perm.refl _)
     refine RW.callS (d := some 80) (r := (sq 2 7)) (g := 11) (args := #[.P db2 0, .string (⟨#[122, 122, 57]⟩ : ByteArray)]) (by as_aux_lemma => kernel_rfl) ((dSizeN hJ.ok hJ.live hff hfn hfs) ((H.lend (M1 := diskM db2 D63 sa64 sk65) (W1 := [⟨stepS, 67, .slice sa64 D63.steps.length sk65, D63.steps⟩])).pick [] rfl)) ?_
     rintro _ w66 ⟨rfl, H'⟩
     have H := H.back (M1 := diskM db2 D63 sa64 sk65) (W1 := [⟨stepS, 67, .slice sa64 D63.steps.length sk65, D63.steps⟩]) H'
     have H := H.perms (M' := ((diskM db2 D63 sa64 sk65))) (W' := [⟨stepS, 67, .slice sa64 D63.steps.length sk65, D63.steps⟩]) ((List.perm_append_comm (l₁ := diskM db2 D63 sa64 sk65) (l₂ := ([] : Heap))).symm) (List.Perm.refl _)
     have H : Hp w S [] ((diskM db2 D63 sa64 sk65)) [⟨stepS, 67, .slice sa64 D63.steps.length sk65, D63.steps⟩] [Rp SB [.slice (some ⟨b5, 0, none⟩) 64 64] (padTo xs k), Rp SB [.slice a xs.length ca] xs, Rp (Shape.slice actS) [.slice la ls.length lk] ls] _ := H
     refine qF 5 [(5, .P db2 0), (6, .slice (some ⟨b5, 0, none⟩) 64 64), (9, .I 2), (10, .I 0)] ?_
     refine qR 1 [.c [8, 0], .c [9]] [(5, .P db2 0), (6, .slice (some ⟨b5, 0, none⟩) 64 64), (9, .I 2), (10, .I 0)] ?_
     refine qG (sq 0 7) ?_
     refine qP 1 (sq 1 7) [(5, .P db2 0), (6, .slice (some ⟨b5, 0, none⟩) 64 64), (9, .I 2), (10, .I 0), (84, .P db2 0)] ?_
     have H := H.perms (M' := diskM db2 D63 sa64 sk65 ++ []) (W' := [⟨stepS, 67, .slice sa64 D63.steps.length sk65, D63.steps⟩]) (List.perm_append_comm (l₁ := diskM db2 D63 sa64 sk65) (l₂ := ([] : Heap))) (List.Perm.refl _)
     refine RW.callS (d := some 85) (r := (sq 2 7)) (g := 13) (args := #[.P db2 0, .string (⟨#[122, 122, 57]⟩ : ByteArray), .I 1]) (by as_aux_lemma => kernel_rfl) ((dReadHit hJ.ok hJ.live hff hfn ⟨by decide, by rw [hfs]; decide⟩) ((H.lend (M1 := diskM db2 D63 sa64 sk65) (W1 := [⟨stepS, 67, .slice sa64 D63.steps.length sk65, D63.steps⟩])).pick [] rfl)) ?_
     rintro _ w67 ⟨a68, c69, rfl, H'⟩
     have H := H.back (M1 := diskM db2 D63 sa64 sk65) (W1 := [⟨stepS, 67, .slice sa64 D63.steps.length sk65, D63.steps⟩]) H'
     have H := H.perms (M' := ((diskM db2 D63 sa64 sk65))) (W' := [⟨Sb, 5, .slice a68 ((secL ((mfind 1 ff.now).getD zeroSec)).length) c69, (secL ((mfind 1 ff.now).getD zeroSec))⟩, ⟨stepS, 67, .slice sa64 D63.steps.length sk65, D63.steps⟩]) ((List.perm_append_comm (l₁ := diskM db2 D63 sa64 sk65) (l₂ := ([] : Heap))).symm) (List.Perm.refl _)
     have H : Hp w S [] ((diskM db2 D63 sa64 sk65)) [⟨Sb, 5, .slice a68 ((secL ((mfind 1 ff.now).getD zeroSec)).length) c69, (secL ((mfind 1 ff.now).getD zeroSec))⟩, ⟨stepS, 67, .slice sa64 D63.steps.length sk65, D63.steps⟩] [Rp SB [.slice (some ⟨b5, 0, none⟩) 64 64] (padTo xs k), Rp SB [.slice a xs.length ca] xs, Rp (Shape.slice actS) [.slice la ls.length lk] ls] _ := H
     refine qF 5 [(5, .P db2 0), (6, .slice (some ⟨b5, 0, none⟩) 64 64), (9, .I 2), (10, .I 0), (11, .slice a68 ((secL ((mfind 1 ff.now).getD zeroSec)).length) c69), (12, .I 0)] ?_
     refine qR 1 [.c [9, 0], .c [10]] [(5, .P db2 0), (6, .slice (some ⟨b5, 0, none⟩) 64 64), (9, .I 2), (10, .I 0), (11, .slice a68 ((secL ((mfind 1 ff.now).getD zeroSec)).length) c69), (12, .I 0)] ?_
     refine qG (sq 0 7) ?_
     refine qP 1 (sq 1 7) [(6, .slice (some ⟨b5, 0, none⟩) 64 64), (9, .I 2), (10, .I 0), (11, .slice a68 ((secL ((mfind 1 ff.now).getD zeroSec)).length) c69), (12, .I 0), (89, .P db2 0)] ?_
     have H := H.frontW 1 (W' := [⟨stepS, 67, .slice sa64 D63.steps.length sk65, D63.steps⟩, ⟨Sb, 5, .slice a68 ((secL ((mfind 1 ff.now).getD zeroSec)).length) c69, (secL ((mfind 1 ff.now).getD zeroSec))⟩]) rfl
     have H := H.perms (M' := diskM db2 D63 sa64 sk65 ++ []) (W' := [⟨stepS, 67, .slice sa64 D63.steps.length sk65, D63.steps⟩, ⟨Sb, 5, .slice a68 ((secL ((mfind 1 ff.now).getD zeroSec)).length) c69, (secL ((mfind 1 ff.now).getD zeroSec))⟩]) (List.perm_append_comm (l₁ := diskM db2 D63 sa64 sk65) (l₂ := ([] : Heap))) (List.Perm.refl _)
     refine RW.callS (d := some 90) (r := (sq 2 7)) (g := 13) (args := #[.P db2 0, .string (⟨#[122, 122, 57]⟩ : ByteArray), .I 0]) (by as_aux_lemma => kernel_rfl) ((dReadHit hJ.ok hJ.live hff hfn ⟨by decide, by rw [hfs]; decide⟩) ((H.lend (M1 := diskM db2 D63 sa64 sk65) (W1 := [⟨stepS, 67, .slice sa64 D63.steps.length sk65, D63.steps⟩])).pick [] rfl)) ?_
     rintro _ w70 ⟨a71, c72, rfl, H'⟩
     have H := H.back (M1 := diskM db2 D63 sa64 sk65) (W1 := [⟨stepS, 67, .slice sa64 D63.steps.length sk65, D63.steps⟩]) H'
     have H := H.perms (M' := ((diskM db2 D63 sa64 sk65))) (W' := [⟨Sb, 5, .slice a71 ((secL ((mfind 0 ff.now).getD zeroSec)).length) c72, (secL ((mfind 0 ff.now).getD zeroSec))⟩, ⟨stepS, 67, .slice sa64 D63.steps.length sk65, D63.steps⟩, ⟨Sb, 5, .slice a68 ((secL ((mfind 1 ff.now).getD zeroSec)).length) c69, (secL ((mfind 1 ff.now).getD zeroSec))⟩]) ((List.perm_append_comm (l₁ := diskM db2 D63 sa64 sk65) (l₂ := ([] : Heap))).symm) (List.Perm.refl _)
     have H : Hp w S [] ((diskM db2 D63 sa64 sk65)) [⟨Sb, 5, .slice a71 ((secL ((mfind 0 ff.now).getD zeroSec)).length) c72, (secL ((mfind 0 ff.now).getD zeroSec))⟩, ⟨stepS, 67, .slice sa64 D63.steps.length sk65, D63.steps⟩, ⟨Sb, 5, .slice a68 ((secL ((mfind 1 ff.now).getD zeroSec)).length) c69, (secL ((mfind 1 ff.now).getD zeroSec))⟩] [Rp SB [.slice (some ⟨b5, 0, none⟩) 64 64] (padTo xs k), Rp SB [.slice a xs.length ca] xs, Rp (Shape.slice actS) [.slice la ls.length lk] ls] _ := H
     refine qF 5 [(6, .slice (some ⟨b5, 0, none⟩) 64 64), (9, .I 2), (10, .I 0), (11, .slice a68 ((secL ((mfind 1 ff.now).getD zeroSec)).length) c69), (12, .I 0), (13, .slice a71 ((secL ((mfind 0 ff.now).getD zeroSec)).length) c72), (14, .I 0)] ?_
     refine qR 1 [.c [10, 0], .c [11]] [(6, .slice (some ⟨b5, 0, none⟩) 64 64), (9, .I 2), (10, .I 0), (11, .slice a68 ((secL ((mfind 1 ff.now).getD zeroSec)).length) c69), (12, .I 0), (13, .slice a71 ((secL ((mfind 0 ff.now).getD zeroSec)).length) c72), (14, .I 0)] ?_
     refine qG (sq 0 28) ?_
     refine qP 17 (sq 17 28) [(13, .slice a71 ((secL ((mfind 0 ff.now).getD zeroSec)).length) c72), (107, .bool true), (108, .slice a68 ((secL ((mfind 1 ff.now).getD zeroSec)).length) c69), (109, .slice (some ⟨b5, 0, none⟩) 64 64)] ?_
     have H : Hp w S [] ((diskM db2 D63 sa64 sk65)) [⟨Sb, 5, .slice a71 ((secL ((mfind 0 ff.now).getD zeroSec)).length) c72, (secL ((mfind 0 ff.now).getD zeroSec))⟩, ⟨stepS, 67, .slice sa64 D63.steps.length sk65, D63.steps⟩] [Rp SB [.slice a68 ((secL ((mfind 1 ff.now).getD zeroSec)).length) c69] (secL ((mfind 1 ff.now).getD zeroSec)), Rp SB [.slice (some ⟨b5, 0, none⟩) 64 64] (padTo xs k), Rp SB [.slice a xs.length ca] xs, Rp (Shape.slice actS) [.slice la ls.length lk] ls] _ := H.freezeW 2 rfl
     refine qK .seq (some 110) (sq 18 28) 14 #[.slice a68 ((secL ((mfind 1 ff.now).getD zeroSec)).length) c69, .slice (some ⟨b5, 0, none⟩) 64 64] (same01_spec (S := Av S w [] (idsOf ((diskM db2 D63 sa64 sk65)) [⟨Sb, 5, .slice a71 ((secL ((mfind 0 ff.now).getD zeroSec)).length) c72, (secL ((mfind 0 ff.now).getD zeroSec))⟩, ⟨stepS, 67, .slice sa64 D63.steps.length sk65, D63.steps⟩])) (xs := (secL ((mfind 1 ff.now).getD zeroSec))) (ys := (padTo xs k)) (H.rp 0 rfl) (H.rp 1 rfl)) ?_
     rintro _ w73 hE74 rfl
     have H := H.ext hE74
     rw [sameB_eq (by rw [hf1]; exact secL_same (padTo_len _ _))]
     refine qP 3 (sq 21 28) [(112, .bool true), (113, .slice a71 ((secL ((mfind 0 ff.now).getD zeroSec)).length) c72)] ?_
     refine RW.makeW Sb (κ := .seq) (d := some 114) (r := (sq 22 28)) (T := 24) (e := 5) (by_ := 1) (v0 := .int .u8 0) (0#8 : BitVec 8) (kl := .i64) (kc := .i64) (lv := 64) (cv := 64) (by as_aux_lemma => kernel_rfl) (nofun) (by as_aux_lemma => kernel_rfl) rfl H 64 64 (by omega) (by omega) (by omega) (by omega) (by omega) (fun _ _ => rfl) ?_
     intro b75 w76 H
     have H : Hp w S [] ((diskM db2 D63 sa64 sk65)) [⟨Sb, 5, .slice (some ⟨b75, 0, none⟩) 64 64, (List.replicate 64 (0#8 : BitVec 8))⟩, ⟨Sb, 5, .slice a71 ((secL ((mfind 0 ff.now).getD zeroSec)).length) c72, (secL ((mfind 0 ff.now).getD zeroSec))⟩, ⟨stepS, 67, .slice sa64 D63.steps.length sk65, D63.steps⟩] [Rp SB [.slice a68 ((secL ((mfind 1 ff.now).getD zeroSec)).length) c69] (secL ((mfind 1 ff.now).getD zeroSec)), Rp SB [.slice (some ⟨b5, 0, none⟩) 64 64] (padTo xs k), Rp SB [.slice a xs.length ca] xs, Rp (Shape.slice actS) [.slice la ls.length lk] ls] _ := H
     have H : Hp w S [] ((diskM db2 D63 sa64 sk65)) [⟨Sb, 5, .slice (some ⟨b75, 0, none⟩) 64 64, (List.replicate 64 (0#8 : BitVec 8))⟩, ⟨stepS, 67, .slice sa64 D63.steps.length sk65, D63.steps⟩] [Rp SB [.slice a71 ((secL ((mfind 0 ff.now).getD zeroSec)).length) c72] (secL ((mfind 0 ff.now).getD zeroSec)), Rp SB [.slice a68 ((secL ((mfind 1 ff.now).getD zeroSec)).length) c69] (secL ((mfind 1 ff.now).getD zeroSec)), Rp SB [.slice (some ⟨b5, 0, none⟩) 64 64] (padTo xs k), Rp SB [.slice a xs.length ca] xs, Rp (Shape.slice actS) [.slice la ls.length lk] ls] _ := H.freezeW 1 rfl
     have H : Hp w S [] ((diskM db2 D63 sa64 sk65)) [⟨stepS, 67, .slice sa64 D63.steps.length sk65, D63.steps⟩] [Rp SB [.slice (some ⟨b75, 0, none⟩) 64 64] (List.replicate 64 (0#8 : BitVec 8)), Rp SB [.slice a71 ((secL ((mfind 0 ff.now).getD zeroSec)).length) c72] (secL ((mfind 0 ff.now).getD zeroSec)), Rp SB [.slice a68 ((secL ((mfind 1 ff.now).getD zeroSec)).length) c69] (secL ((mfind 1 ff.now).getD zeroSec)), Rp SB [.slice (some ⟨b5, 0, none⟩) 64 64] (padTo xs k), Rp SB [.slice a xs.length ca] xs, Rp (Shape.slice actS) [.slice la ls.length lk] ls] _ := H.freezeW 0 rfl
     refine qK .seq (some 115) (sq 23 28) 14 #[.slice a71 ((secL ((mfind 0 ff.now).getD zeroSec)).length) c72, .slice (some ⟨b75, 0, none⟩) 64 64] (same01_spec (S := Av S w [] (idsOf ((diskM db2 D63 sa64 sk65)) [⟨stepS, 67, .slice sa64 D63.steps.length sk65, D63.steps⟩])) (xs := (secL ((mfind 0 ff.now).getD zeroSec))) (ys := (List.replicate 64 (0#8 : BitVec 8))) (H.rp 1 rfl) (H.rp 0 rfl)) ?_
     rintro _ w77 hE78 rfl
     have H := H.ext hE78
     rw [sameB_eq (by rw [hf0]; rfl)]
     refine qP 2 (sq 25 28) [(117, .bool true)] ?_
     refine qK .seq (some 118) (sq 26 28) 12 #[] (heads_spec (S := fun _ => True)) ?_
     rintro _ w79 hE80 rfl
     have H := H.ext hE80
     refine qF 2 [(4, .bool true)] ?_
     refine qT (.bool true) Try.func4 ?_
     exact ⟨_, rfl, H.done, rfl⟩
 ·
  refine qF 5 [(0, .slice a xs.length ca), (1, .slice la ls.length lk), (5, .P db2 0), (6, .slice (some ⟨b5, 0, none⟩) 64 64), (7, .I k), (24, .bool false)] ?_
  refine qR 4 [.c [4, 0, 0], .c [4, 0, 1], .c [5]] [(1, .slice la ls.length lk), (5, .P db2 0), (6, .slice (some ⟨b5, 0, none⟩) 64 64)] ?_
  refine qG (sq 0 13) ?_
  refine qP 5 (sq 5 13) [(1, .slice la ls.length lk), (5, .P db2 0), (6, .slice (some ⟨b5, 0, none⟩) 64 64), (36, .bool false), (37, .P db2 0), (38, .slice (some ⟨b5, 0, none⟩) 64 64)] ?_
  have H : Hp w S [] ((diskM db2 (newD x3 y4) none 0)) [⟨stepS, 67, .slice none ((newD x3 y4).steps.length) 0, (newD x3 y4).steps⟩] [Rp SB [.slice (some ⟨b5, 0, none⟩) 64 64] (padTo xs k), Rp SB [.slice a xs.length ca] xs, Rp (Shape.slice actS) [.slice la ls.length lk] ls] _ := H.freezeW 0 rfl
  have H := H.perms (M' := diskM db2 (newD x3 y4) none 0 ++ []) (W' := [⟨stepS, 67, .slice none ((newD x3 y4).steps.length) 0, (newD x3 y4).steps⟩]) (List.perm_append_comm (l₁ := diskM db2 (newD x3 y4) none 0) (l₂ := ([] : Heap))) (List.Perm.refl _)
  refine RW.callS (d := some 39) (r := (sq 6 13)) (g := 8) (args := #[.P db2 0, .string (⟨#[122, 122, 57]⟩ : ByteArray), .I 1, .slice (some ⟨b5, 0, none⟩) 64 64]) (by as_aux_lemma => kernel_rfl) (dWriteN (hokdb2) (Nat.zero_le _) (rfl) (fun h => by cases h) (by first | assumption | decide | (simp [maxLen]; done)) (by decide) (xs := (padTo xs k)) (padTo_len _ _) ((H.lend (M1 := diskM db2 (newD x3 y4) none 0) (W1 := [⟨stepS, 67, .slice none ((newD x3 y4).steps.length) 0, (newD x3 y4).steps⟩])).pick [0] rfl)) ?_
  rintro _ w81 ⟨D82, sa83, sk84, ⟨e85, rfl, hR86⟩, H'⟩
  have H := H.back (M1 := diskM db2 (newD x3 y4) none 0) (W1 := [⟨stepS, 67, .slice none ((newD x3 y4).steps.length) 0, (newD x3 y4).steps⟩]) H'
  have H := H.perms (M' := ((diskM db2 D82 sa83 sk84))) (W' := [⟨stepS, 67, .slice sa83 D82.steps.length sk84, D82.steps⟩]) ((List.perm_append_comm (l₁ := diskM db2 D82 sa83 sk84) (l₂ := ([] : Heap))).symm) (List.Perm.refl _)
  have H : Hp w S [] ((diskM db2 D82 sa83 sk84)) [⟨stepS, 67, .slice sa83 D82.steps.length sk84, D82.steps⟩] [Rp SB [.slice (some ⟨b5, 0, none⟩) 64 64] (padTo xs k), Rp SB [.slice a xs.length ca] xs, Rp (Shape.slice actS) [.slice la ls.length lk] ls] _ := H
  have hR86 : WriteR (newD x3 y4) (⟨#[122, 122, 57]⟩ : ByteArray) 1 (padTo xs k) e85 D82 := hR86
  obtain ⟨he1, hJ0, hD0⟩ := Apart.first (by decide) nm_z (padTo_len _ _) hR86
  subst he1
  refine qF 7 [(1, .slice la ls.length lk), (5, .P db2 0), (6, .slice (some ⟨b5, 0, none⟩) 64 64), (46, .bool (decide ((((ls.length : Nat) : Int) : Int) > 200)))] ?_
  refine qD ((((ls.length : Nat) : Int) : Int) > 200) (fun h87 => ?_) (fun h87 => ?_)
  ·
   refine qR 2 [.c [4, 0, 1, 0, 1], .c [5]] [(4, .bool (decide ((((ls.length : Nat) : Int) : Int) > 200)))] ?_
   refine qT (.bool (decide ((((ls.length : Nat) : Int) : Int) > 200))) Try.func4 ?_
   refine ⟨_, rfl, H.done, ?_⟩
   congr 1
   exact decide_eq_true (by omega)
  ·
   refine qR 5 [.c [5, 0, 1, 0], .b 2, .c [6]] [(1, .slice la ls.length lk), (5, .P db2 0), (6, .slice (some ⟨b5, 0, none⟩) 64 64), (8, .I 0)] ?_
   refine WK.loop (α := Nat) (b := cd Try.prog 4 [5, 0, 1, 0, 0]) (by as_aux_lemma => kernel_rfl) (fun i => [(1, .slice la ls.length lk), (5, .P db2 0), (6, .slice (some ⟨b5, 0, none⟩) 64 64), (8, .I i)]) (fun i w' => Hp w S [] ((diskM db2 D82 sa83 sk84)) [⟨stepS, 67, .slice sa83 D82.steps.length sk84, D82.steps⟩] [Rp SB [.slice (some ⟨b5, 0, none⟩) 64 64] (padTo xs k), Rp SB [.slice a xs.length ca] xs, Rp (Shape.slice actS) [.slice la ls.length lk] ls] w' ∧ i ≤ ls.length ∧ ∀ y ∈ ls.take i, y.name ≠ (⟨#[122, 122, 57]⟩ : ByteArray) ∧ y.to ≠ (⟨#[122, 122, 57]⟩ : ByteArray)) (fun i => ls.length - i) 0 ⟨H, Nat.zero_le _, by simp⟩ (rfl) ?_
   rintro i w89 ⟨H, ⟨hi, hnames⟩⟩ hback88
   refine qR 3 [.c [5, 0, 1, 0, 0, 0, 1], .c [5, 0, 1, 0, 0, 1], .l [5, 0, 1, 0, 0], .b 2, .c [6]] [(1, .slice la ls.length lk), (5, .P db2 0), (6, .slice (some ⟨b5, 0, none⟩) 64 64), (8, .I i), (57, .bool (decide (((i : Int) : Int) < ((ls.length : Nat) : Int))))] ?_
   refine qD (((i : Int) : Int) < ((ls.length : Nat) : Int)) (fun h90 => ?_) (fun h90 => ?_)
   ·
    refine qR 4 [.c [5, 0, 1, 0, 0, 1, 0, 0, 0], .c [5, 0, 1, 0, 0, 1, 0, 0, 1], .b 3, .c [5, 0, 1, 0, 0, 2], .l [5, 0, 1, 0, 0], .b 2, .c [6]] [(1, .slice la ls.length lk), (5, .P db2 0), (6, .slice (some ⟨b5, 0, none⟩) 64 64), (8, .I i)] ?_
    refine qG (sq 0 14) ?_
    refine qP 2 (sq 2 14) [(1, .slice la ls.length lk), (5, .P db2 0), (6, .slice (some ⟨b5, 0, none⟩) 64 64), (8, .I i), (60, .slice la ls.length lk), (61, .I i)] ?_
    have hx91 : i < ls.length := by omega
    refine qX .seq 62 (sq 3 14) 38 40 (i : Int) actS (ls[i]) H 2 rfl i (by omega) (List.getElem?_eq_getElem hx91) ?_
    intro b92 o93 es94 hr95 H
    obtain ⟨a4q96, k4q96, rfl, hf97, hf98, hf99, hf100, hf101⟩ := act_open hr95
    have H := H.add (F := Rp SB [.slice a4q96 ((ls[i]).data.length) k4q96] ((ls[i]).data)) hf101
    refine qP 1 (sq 4 14) [(1, .slice la ls.length lk), (5, .P db2 0), (6, .slice (some ⟨b5, 0, none⟩) 64 64), (8, .I i), (63, .pointer (some ⟨b92, o93 + 1, none⟩))] ?_
    refine qL .seq 64 (sq 5 14) 9 b92 (o93 + 1) 1 (.string ((ls[i]).name)) (H.fc 1 rfl) ?_
    refine qP 2 (sq 7 14) [(1, .slice la ls.length lk), (5, .P db2 0), (6, .slice (some ⟨b5, 0, none⟩) 64 64), (8, .I i), (66, .bool (((ls[i]).name).toList == (⟨#[122, 122, 57]⟩ : ByteArray).toList))] ?_
    refine tE (fun b_ => [(1, .slice la ls.length lk), (5, .P db2 0), (6, .slice (some ⟨b5, 0, none⟩) 64 64), (8, .I i), (66, .bool b_)]) (((ls[i]).name).toList) ((⟨#[122, 122, 57]⟩ : ByteArray).toList) (fun h102 => ?_) (fun h102 => ?_)
    ·
     refine qF 7 [(1, .slice la ls.length lk), (5, .P db2 0), (6, .slice (some ⟨b5, 0, none⟩) 64 64), (8, .I i), (73, .bool true)] ?_
     refine qR 2 [.c [5, 0, 1, 0, 0, 1, 0, 0, 1, 0, 0], .c [5, 0, 1, 0, 0, 1, 0, 0, 1, 0, 1], .b 3, .c [5, 0, 1, 0, 0, 2], .l [5, 0, 1, 0, 0], .b 2, .c [6]] [] ?_
     refine qG (sq 0 2) ?_
     refine qK .seq (some 74) (sq 1 2) 12 #[] (heads_spec (S := fun _ => True)) ?_
     rintro _ w103 hE104 rfl
     have H := H.ext hE104
     refine qF 1 [(4, .bool true)] ?_
     refine qT (.bool true) Try.func4 ?_
     exact ⟨_, rfl, H.done, rfl⟩
    ·
     refine qP 2 (sq 9 14) [(1, .slice la ls.length lk), (5, .P db2 0), (6, .slice (some ⟨b5, 0, none⟩) 64 64), (8, .I i), (66, .bool false), (67, .slice la ls.length lk), (68, .I i)] ?_
     have hx105 : i < ls.length := by omega
     refine qX .seq 69 (sq 10 14) 38 40 (i : Int) actS (ls[i]) H 4 rfl i (by omega) (List.getElem?_eq_getElem hx105) ?_
     intro b106 o107 es108 hr109 H
     obtain ⟨a4q110, k4q110, rfl, hf111, hf112, hf113, hf114, hf115⟩ := act_open hr109
     have H := H.add (F := Rp SB [.slice a4q110 ((ls[i]).data.length) k4q110] ((ls[i]).data)) hf115
     refine qP 1 (sq 11 14) [(1, .slice la ls.length lk), (5, .P db2 0), (6, .slice (some ⟨b5, 0, none⟩) 64 64), (8, .I i), (66, .bool false), (70, .pointer (some ⟨b106, o107 + 2, none⟩))] ?_
     refine qL .seq 71 (sq 12 14) 9 b106 (o107 + 2) 2 (.string ((ls[i]).to)) (H.fc 1 rfl) ?_
     refine qF 2 [(1, .slice la ls.length lk), (5, .P db2 0), (6, .slice (some ⟨b5, 0, none⟩) 64 64), (8, .I i), (73, .bool (((ls[i]).to).toList == (⟨#[122, 122, 57]⟩ : ByteArray).toList))] ?_
     refine qE (((ls[i]).to).toList) ((⟨#[122, 122, 57]⟩ : ByteArray).toList) (fun h116 => ?_) (fun h116 => ?_)
     ·
      refine qR 1 [.c [5, 0, 1, 0, 0, 1, 0, 0, 1, 0, 0], .c [5, 0, 1, 0, 0, 1, 0, 0, 1, 0, 1], .b 3, .c [5, 0, 1, 0, 0, 2], .l [5, 0, 1, 0, 0], .b 2, .c [6]] [] ?_
      refine qG (sq 0 2) ?_
      refine qK .seq (some 74) (sq 1 2) 12 #[] (heads_spec (S := fun _ => True)) ?_
      rintro _ w117 hE118 rfl
      have H := H.ext hE118
      refine qF 1 [(4, .bool true)] ?_
      refine qT (.bool true) Try.func4 ?_
      exact ⟨_, rfl, H.done, rfl⟩
     ·
      refine qR 2 [.c [5, 0, 1, 0, 0, 2], .l [5, 0, 1, 0, 0], .b 2, .c [6]] [(1, .slice la ls.length lk), (5, .P db2 0), (6, .slice (some ⟨b5, 0, none⟩) 64 64), (8, .I i)] ?_
      refine qG (sq 0 3) ?_
      refine qP 1 (sq 1 3) [(1, .slice la ls.length lk), (5, .P db2 0), (6, .slice (some ⟨b5, 0, none⟩) 64 64), (8, .I i), (58, .I i)] ?_
      refine qI .seq 59 (sq 2 3) ((i : Int) + 1) ?_
      refine qF 1 [(1, .slice la ls.length lk), (5, .P db2 0), (6, .slice (some ⟨b5, 0, none⟩) 64 64), (8, .I ((i : Int) + 1))] ?_
      have hstep : ∀ y ∈ ls.take (i + 1), y.name ≠ (⟨#[122, 122, 57]⟩ : ByteArray) ∧ y.to ≠ (⟨#[122, 122, 57]⟩ : ByteArray) := by
       intro y hy
       rw [take_snoc hx105] at hy
       rcases List.mem_append.1 hy with hy | hy
       · exact hnames y hy
       · rw [List.mem_singleton.1 hy]; exact ⟨fun e => h102 (by rw [e]), fun e => h116 (by rw [e])⟩
      have H := H.pick [4, 5, 6] rfl
      exact WK.back (hback88 (i + 1) _ ⟨H, by omega, hstep⟩ (by first | omega | (simp only []; omega))) (by as_aux_lemma => kernel_rfl)
   ·
    refine qR 2 [.c [6, 0], .c [7]] [(1, .slice la ls.length lk), (5, .P db2 0), (6, .slice (some ⟨b5, 0, none⟩) 64 64)] ?_
    refine qG (sq 0 3) ?_
    refine qP 2 (sq 2 3) [(5, .P db2 0), (6, .slice (some ⟨b5, 0, none⟩) 64 64), (75, .P db2 0), (76, .slice la ls.length lk)] ?_
    have H := H.perms (M' := diskM db2 D82 sa83 sk84 ++ []) (W' := [⟨stepS, 67, .slice sa83 D82.steps.length sk84, D82.steps⟩]) (List.perm_append_comm (l₁ := diskM db2 D82 sa83 sk84) (l₂ := ([] : Heap))) (List.Perm.refl _)
    refine RW.callS (d := some 77) (r := (sq 3 3)) (g := 15) (args := #[.P db2 0, .slice la ls.length lk]) (by as_aux_lemma => kernel_rfl) (play_apart hJ0 (by omega) (by rw [← List.take_of_length_le (show ls.length ≤ i by omega)]; exact hnames) hD0 ((H.lend (M1 := diskM db2 D82 sa83 sk84) (W1 := [⟨stepS, 67, .slice sa83 D82.steps.length sk84, D82.steps⟩])).pick [2] rfl)) ?_
    rintro _ w119 ⟨rfl, D120, sa121, sk122, hJ, H'⟩
    have H := H.back (M1 := diskM db2 D82 sa83 sk84) (W1 := [⟨stepS, 67, .slice sa83 D82.steps.length sk84, D82.steps⟩]) H'
    have H := H.perms (M' := ((diskM db2 D120 sa121 sk122))) (W' := [⟨stepS, 67, .slice sa121 D120.steps.length sk122, D120.steps⟩]) ((List.perm_append_comm (l₁ := diskM db2 D120 sa121 sk122) (l₂ := ([] : Heap))).symm) (List.Perm.refl _)
    have H : Hp w S [] ((diskM db2 D120 sa121 sk122)) [⟨stepS, 67, .slice sa121 D120.steps.length sk122, D120.steps⟩] [Rp SB [.slice (some ⟨b5, 0, none⟩) 64 64] (padTo xs k), Rp SB [.slice a xs.length ca] xs, Rp (Shape.slice actS) [.slice la ls.length lk] ls] _ := H
    obtain ⟨ff, hff, hfn, -, hfs, hf1, hf0⟩ := hJ.file
    refine qF 0 [(5, .P db2 0), (6, .slice (some ⟨b5, 0, none⟩) 64 64)] ?_
    refine qR 1 [.c [7, 0], .c [8]] [(5, .P db2 0), (6, .slice (some ⟨b5, 0, none⟩) 64 64)] ?_
    refine qG (sq 0 7) ?_
    refine qP 1 (sq 1 7) [(5, .P db2 0), (6, .slice (some ⟨b5, 0, none⟩) 64 64), (79, .P db2 0)] ?_
    have H := H.perms (M' := diskM db2 D120 sa121 sk122 ++ []) (W' := [⟨stepS, 67, .slice sa121 D120.steps.length sk122, D120.steps⟩]) (List.perm_append_comm (l₁ := diskM db2 D120 sa121 sk122) (l₂ := ([] : Heap))) (List.Perm.refl _)
    refine RW.callS (d := some 80) (r := (sq 2 7)) (g := 11) (args := #[.P db2 0, .string (⟨#[122, 122, 57]⟩ : ByteArray)]) (by as_aux_lemma => kernel_rfl) ((dSizeN hJ.ok hJ.live hff hfn hfs) ((H.lend (M1 := diskM db2 D120 sa121 sk122) (W1 := [⟨stepS, 67, .slice sa121 D120.steps.length sk122, D120.steps⟩])).pick [] rfl)) ?_
    rintro _ w123 ⟨rfl, H'⟩
    have H := H.back (M1 := diskM db2 D120 sa121 sk122) (W1 := [⟨stepS, 67, .slice sa121 D120.steps.length sk122, D120.steps⟩]) H'
    have H := H.perms (M' := ((diskM db2 D120 sa121 sk122))) (W' := [⟨stepS, 67, .slice sa121 D120.steps.length sk122, D120.steps⟩]) ((List.perm_append_comm (l₁ := diskM db2 D120 sa121 sk122) (l₂ := ([] : Heap))).symm) (List.Perm.refl _)
    have H : Hp w S [] ((diskM db2 D120 sa121 sk122)) [⟨stepS, 67, .slice sa121 D120.steps.length sk122, D120.steps⟩] [Rp SB [.slice (some ⟨b5, 0, none⟩) 64 64] (padTo xs k), Rp SB [.slice a xs.length ca] xs, Rp (Shape.slice actS) [.slice la ls.length lk] ls] _ := H
    refine qF 5 [(5, .P db2 0), (6, .slice (some ⟨b5, 0, none⟩) 64 64), (9, .I 2), (10, .I 0)] ?_
    refine qR 1 [.c [8, 0], .c [9]] [(5, .P db2 0), (6, .slice (some ⟨b5, 0, none⟩) 64 64), (9, .I 2), (10, .I 0)] ?_
    refine qG (sq 0 7) ?_
    refine qP 1 (sq 1 7) [(5, .P db2 0), (6, .slice (some ⟨b5, 0, none⟩) 64 64), (9, .I 2), (10, .I 0), (84, .P db2 0)] ?_
    have H := H.perms (M' := diskM db2 D120 sa121 sk122 ++ []) (W' := [⟨stepS, 67, .slice sa121 D120.steps.length sk122, D120.steps⟩]) (List.perm_append_comm (l₁ := diskM db2 D120 sa121 sk122) (l₂ := ([] : Heap))) (List.Perm.refl _)
    refine RW.callS (d := some 85) (r := (sq 2 7)) (g := 13) (args := #[.P db2 0, .string (⟨#[122, 122, 57]⟩ : ByteArray), .I 1]) (by as_aux_lemma => kernel_rfl) ((dReadHit hJ.ok hJ.live hff hfn ⟨by decide, by rw [hfs]; decide⟩) ((H.lend (M1 := diskM db2 D120 sa121 sk122) (W1 := [⟨stepS, 67, .slice sa121 D120.steps.length sk122, D120.steps⟩])).pick [] rfl)) ?_
    rintro _ w124 ⟨a125, c126, rfl, H'⟩
    have H := H.back (M1 := diskM db2 D120 sa121 sk122) (W1 := [⟨stepS, 67, .slice sa121 D120.steps.length sk122, D120.steps⟩]) H'
    have H := H.perms (M' := ((diskM db2 D120 sa121 sk122))) (W' := [⟨Sb, 5, .slice a125 ((secL ((mfind 1 ff.now).getD zeroSec)).length) c126, (secL ((mfind 1 ff.now).getD zeroSec))⟩, ⟨stepS, 67, .slice sa121 D120.steps.length sk122, D120.steps⟩]) ((List.perm_append_comm (l₁ := diskM db2 D120 sa121 sk122) (l₂ := ([] : Heap))).symm) (List.Perm.refl _)
    have H : Hp w S [] ((diskM db2 D120 sa121 sk122)) [⟨Sb, 5, .slice a125 ((secL ((mfind 1 ff.now).getD zeroSec)).length) c126, (secL ((mfind 1 ff.now).getD zeroSec))⟩, ⟨stepS, 67, .slice sa121 D120.steps.length sk122, D120.steps⟩] [Rp SB [.slice (some ⟨b5, 0, none⟩) 64 64] (padTo xs k), Rp SB [.slice a xs.length ca] xs, Rp (Shape.slice actS) [.slice la ls.length lk] ls] _ := H
    refine qF 5 [(5, .P db2 0), (6, .slice (some ⟨b5, 0, none⟩) 64 64), (9, .I 2), (10, .I 0), (11, .slice a125 ((secL ((mfind 1 ff.now).getD zeroSec)).length) c126), (12, .I 0)] ?_
    refine qR 1 [.c [9, 0], .c [10]] [(5, .P db2 0), (6, .slice (some ⟨b5, 0, none⟩) 64 64), (9, .I 2), (10, .I 0), (11, .slice a125 ((secL ((mfind 1 ff.now).getD zeroSec)).length) c126), (12, .I 0)] ?_
    refine qG (sq 0 7) ?_
    refine qP 1 (sq 1 7) [(6, .slice (some ⟨b5, 0, none⟩) 64 64), (9, .I 2), (10, .I 0), (11, .slice a125 ((secL ((mfind 1 ff.now).getD zeroSec)).length) c126), (12, .I 0), (89, .P db2 0)] ?_
    have H := H.frontW 1 (W' := [⟨stepS, 67, .slice sa121 D120.steps.length sk122, D120.steps⟩, ⟨Sb, 5, .slice a125 ((secL ((mfind 1 ff.now).getD zeroSec)).length) c126, (secL ((mfind 1 ff.now).getD zeroSec))⟩]) rfl
    have H := H.perms (M' := diskM db2 D120 sa121 sk122 ++ []) (W' := [⟨stepS, 67, .slice sa121 D120.steps.length sk122, D120.steps⟩, ⟨Sb, 5, .slice a125 ((secL ((mfind 1 ff.now).getD zeroSec)).length) c126, (secL ((mfind 1 ff.now).getD zeroSec))⟩]) (List.perm_append_comm (l₁ := diskM db2 D120 sa121 sk122) (l₂ := ([] : Heap))) (List.Perm.refl _)
    refine RW.callS (d := some 90) (r := (sq 2 7)) (g := 13) (args := #[.P db2 0, .string (⟨#[122, 122, 57]⟩ : ByteArray), .I 0]) (by as_aux_lemma => kernel_rfl) ((dReadHit hJ.ok hJ.live hff hfn ⟨by decide, by rw [hfs]; decide⟩) ((H.lend (M1 := diskM db2 D120 sa121 sk122) (W1 := [⟨stepS, 67, .slice sa121 D120.steps.length sk122, D120.steps⟩])).pick [] rfl)) ?_
    rintro _ w127 ⟨a128, c129, rfl, H'⟩
    have H := H.back (M1 := diskM db2 D120 sa121 sk122) (W1 := [⟨stepS, 67, .slice sa121 D120.steps.length sk122, D120.steps⟩]) H'
    have H := H.perms (M' := ((diskM db2 D120 sa121 sk122))) (W' := [⟨Sb, 5, .slice a128 ((secL ((mfind 0 ff.now).getD zeroSec)).length) c129, (secL ((mfind 0 ff.now).getD zeroSec))⟩, ⟨stepS, 67, .slice sa121 D120.steps.length sk122, D120.steps⟩, ⟨Sb, 5, .slice a125 ((secL ((mfind 1 ff.now).getD zeroSec)).length) c126, (secL ((mfind 1 ff.now).getD zeroSec))⟩]) ((List.perm_append_comm (l₁ := diskM db2 D120 sa121 sk122) (l₂ := ([] : Heap))).symm) (List.Perm.refl _)
    have H : Hp w S [] ((diskM db2 D120 sa121 sk122)) [⟨Sb, 5, .slice a128 ((secL ((mfind 0 ff.now).getD zeroSec)).length) c129, (secL ((mfind 0 ff.now).getD zeroSec))⟩, ⟨stepS, 67, .slice sa121 D120.steps.length sk122, D120.steps⟩, ⟨Sb, 5, .slice a125 ((secL ((mfind 1 ff.now).getD zeroSec)).length) c126, (secL ((mfind 1 ff.now).getD zeroSec))⟩] [Rp SB [.slice (some ⟨b5, 0, none⟩) 64 64] (padTo xs k), Rp SB [.slice a xs.length ca] xs, Rp (Shape.slice actS) [.slice la ls.length lk] ls] _ := H
    refine qF 5 [(6, .slice (some ⟨b5, 0, none⟩) 64 64), (9, .I 2), (10, .I 0), (11, .slice a125 ((secL ((mfind 1 ff.now).getD zeroSec)).length) c126), (12, .I 0), (13, .slice a128 ((secL ((mfind 0 ff.now).getD zeroSec)).length) c129), (14, .I 0)] ?_
    refine qR 1 [.c [10, 0], .c [11]] [(6, .slice (some ⟨b5, 0, none⟩) 64 64), (9, .I 2), (10, .I 0), (11, .slice a125 ((secL ((mfind 1 ff.now).getD zeroSec)).length) c126), (12, .I 0), (13, .slice a128 ((secL ((mfind 0 ff.now).getD zeroSec)).length) c129), (14, .I 0)] ?_
    refine qG (sq 0 28) ?_
    refine qP 17 (sq 17 28) [(13, .slice a128 ((secL ((mfind 0 ff.now).getD zeroSec)).length) c129), (107, .bool true), (108, .slice a125 ((secL ((mfind 1 ff.now).getD zeroSec)).length) c126), (109, .slice (some ⟨b5, 0, none⟩) 64 64)] ?_
    have H : Hp w S [] ((diskM db2 D120 sa121 sk122)) [⟨Sb, 5, .slice a128 ((secL ((mfind 0 ff.now).getD zeroSec)).length) c129, (secL ((mfind 0 ff.now).getD zeroSec))⟩, ⟨stepS, 67, .slice sa121 D120.steps.length sk122, D120.steps⟩] [Rp SB [.slice a125 ((secL ((mfind 1 ff.now).getD zeroSec)).length) c126] (secL ((mfind 1 ff.now).getD zeroSec)), Rp SB [.slice (some ⟨b5, 0, none⟩) 64 64] (padTo xs k), Rp SB [.slice a xs.length ca] xs, Rp (Shape.slice actS) [.slice la ls.length lk] ls] _ := H.freezeW 2 rfl
    refine qK .seq (some 110) (sq 18 28) 14 #[.slice a125 ((secL ((mfind 1 ff.now).getD zeroSec)).length) c126, .slice (some ⟨b5, 0, none⟩) 64 64] (same01_spec (S := Av S w [] (idsOf ((diskM db2 D120 sa121 sk122)) [⟨Sb, 5, .slice a128 ((secL ((mfind 0 ff.now).getD zeroSec)).length) c129, (secL ((mfind 0 ff.now).getD zeroSec))⟩, ⟨stepS, 67, .slice sa121 D120.steps.length sk122, D120.steps⟩])) (xs := (secL ((mfind 1 ff.now).getD zeroSec))) (ys := (padTo xs k)) (H.rp 0 rfl) (H.rp 1 rfl)) ?_
    rintro _ w130 hE131 rfl
    have H := H.ext hE131
    rw [sameB_eq (by rw [hf1]; exact secL_same (padTo_len _ _))]
    refine qP 3 (sq 21 28) [(112, .bool true), (113, .slice a128 ((secL ((mfind 0 ff.now).getD zeroSec)).length) c129)] ?_
    refine RW.makeW Sb (κ := .seq) (d := some 114) (r := (sq 22 28)) (T := 24) (e := 5) (by_ := 1) (v0 := .int .u8 0) (0#8 : BitVec 8) (kl := .i64) (kc := .i64) (lv := 64) (cv := 64) (by as_aux_lemma => kernel_rfl) (nofun) (by as_aux_lemma => kernel_rfl) rfl H 64 64 (by omega) (by omega) (by omega) (by omega) (by omega) (fun _ _ => rfl) ?_
    intro b132 w133 H
    have H : Hp w S [] ((diskM db2 D120 sa121 sk122)) [⟨Sb, 5, .slice (some ⟨b132, 0, none⟩) 64 64, (List.replicate 64 (0#8 : BitVec 8))⟩, ⟨Sb, 5, .slice a128 ((secL ((mfind 0 ff.now).getD zeroSec)).length) c129, (secL ((mfind 0 ff.now).getD zeroSec))⟩, ⟨stepS, 67, .slice sa121 D120.steps.length sk122, D120.steps⟩] [Rp SB [.slice a125 ((secL ((mfind 1 ff.now).getD zeroSec)).length) c126] (secL ((mfind 1 ff.now).getD zeroSec)), Rp SB [.slice (some ⟨b5, 0, none⟩) 64 64] (padTo xs k), Rp SB [.slice a xs.length ca] xs, Rp (Shape.slice actS) [.slice la ls.length lk] ls] _ := H
    have H : Hp w S [] ((diskM db2 D120 sa121 sk122)) [⟨Sb, 5, .slice (some ⟨b132, 0, none⟩) 64 64, (List.replicate 64 (0#8 : BitVec 8))⟩, ⟨stepS, 67, .slice sa121 D120.steps.length sk122, D120.steps⟩] [Rp SB [.slice a128 ((secL ((mfind 0 ff.now).getD zeroSec)).length) c129] (secL ((mfind 0 ff.now).getD zeroSec)), Rp SB [.slice a125 ((secL ((mfind 1 ff.now).getD zeroSec)).length) c126] (secL ((mfind 1 ff.now).getD zeroSec)), Rp SB [.slice (some ⟨b5, 0, none⟩) 64 64] (padTo xs k), Rp SB [.slice a xs.length ca] xs, Rp (Shape.slice actS) [.slice la ls.length lk] ls] _ := H.freezeW 1 rfl
    have H : Hp w S [] ((diskM db2 D120 sa121 sk122)) [⟨stepS, 67, .slice sa121 D120.steps.length sk122, D120.steps⟩] [Rp SB [.slice (some ⟨b132, 0, none⟩) 64 64] (List.replicate 64 (0#8 : BitVec 8)), Rp SB [.slice a128 ((secL ((mfind 0 ff.now).getD zeroSec)).length) c129] (secL ((mfind 0 ff.now).getD zeroSec)), Rp SB [.slice a125 ((secL ((mfind 1 ff.now).getD zeroSec)).length) c126] (secL ((mfind 1 ff.now).getD zeroSec)), Rp SB [.slice (some ⟨b5, 0, none⟩) 64 64] (padTo xs k), Rp SB [.slice a xs.length ca] xs, Rp (Shape.slice actS) [.slice la ls.length lk] ls] _ := H.freezeW 0 rfl
    refine qK .seq (some 115) (sq 23 28) 14 #[.slice a128 ((secL ((mfind 0 ff.now).getD zeroSec)).length) c129, .slice (some ⟨b132, 0, none⟩) 64 64] (same01_spec (S := Av S w [] (idsOf ((diskM db2 D120 sa121 sk122)) [⟨stepS, 67, .slice sa121 D120.steps.length sk122, D120.steps⟩])) (xs := (secL ((mfind 0 ff.now).getD zeroSec))) (ys := (List.replicate 64 (0#8 : BitVec 8))) (H.rp 1 rfl) (H.rp 0 rfl)) ?_
    rintro _ w134 hE135 rfl
    have H := H.ext hE135
    rw [sameB_eq (by rw [hf0]; rfl)]
    refine qP 2 (sq 25 28) [(117, .bool true)] ?_
    refine qK .seq (some 118) (sq 26 28) 12 #[] (heads_spec (S := fun _ => True)) ?_
    rintro _ w136 hE137 rfl
    have H := H.ext hE137
    refine qF 2 [(4, .bool true)] ?_
    refine qT (.bool true) Try.func4 ?_
    exact ⟨_, rfl, H.done, rfl⟩


end Go.Proofs.Ytekgjnblidjloaa
