import Derived.Test.YtekgjnblidjloaaH1
namespace Go.Proofs.Ytekgjnblidjloaa
open Go.BX

def sameB (xs ys : List (BitVec 8)) : Bool := (strOf xs).toList == (strOf ys).toList
theorem sameB_eq {xs ys : List (BitVec 8)} (h : xs = ys) : sameB xs ys = true := by subst h; simp [sameB]

theorem same01_spec {S : Nat → Prop} {w : World} {xs ys : List (BitVec 8)} {a b : Option Addr} {c d : Nat} (h1 : SB.rep S w [.slice a xs.length c] xs) (h2 : SB.rep S w [.slice b ys.length d] ys) :
 Calls Try.prog 14 #[.slice a xs.length c, .slice b ys.length d] w (Ret fun v w' => Ext w w' ∧ v = .bool (sameB xs ys)) := by
 refine qS (fn := Try.f14) (n := 10) (σ := [(0, .slice a xs.length c), (1, .slice b ys.length d)]) Try.func14 ?_
 have H := Hp.startF (w := w) (S := S) (G := [Rp SB [.slice a xs.length c] xs, Rp SB [.slice b ys.length d] ys]) (.rp h1 (.rp h2 .nil))
 refine qR 3 [.c [1, 0], .c [2]] [(0, .slice a xs.length c), (1, .slice b ys.length d)] ?_
 refine qG (sq 0 6) ?_
 refine qP 1 (sq 1 6) [(1, .slice b ys.length d), (5, .slice a xs.length c)] ?_
 refine RW.toStr (κ := .seq) (d := some 6) (r := (sq 2 6)) (Ts := 24) (Td := 9) 5 (a := a) (len := xs.length) (cap := c) (xs := xs) (by as_aux_lemma => kernel_rfl) (by as_aux_lemma => kernel_rfl) (H.rp 0 rfl) ?_
 refine qP 1 (sq 3 6) [(6, .string (strOf xs)), (7, .slice b ys.length d)] ?_
 refine RW.toStr (κ := .seq) (d := some 8) (r := (sq 4 6)) (Ts := 24) (Td := 9) 5 (a := b) (len := ys.length) (cap := d) (xs := ys) (by as_aux_lemma => kernel_rfl) (by as_aux_lemma => kernel_rfl) (H.rp 1 rfl) ?_
 refine qF 2 [(4, .bool ((strOf xs).toList == (strOf ys).toList))] ?_
 refine qT (.bool ((strOf xs).toList == (strOf ys).toList)) Try.func14 ?_
 exact ⟨_, rfl, H.done, rfl⟩

theorem same01N {S : Nat → Prop} {w : World} {xs ys : List (BitVec 8)} {a b : Option Addr} {c d n m : Nat} (h1 : SB.rep S w [.slice a n c] xs) (h2 : SB.rep S w [.slice b m d] ys) :
 Calls Try.prog 14 #[.slice a n c, .slice b m d] w (Ret fun v w' => Ext w w' ∧ v = .bool (sameB xs ys)) := by
 obtain ⟨e1, -⟩ := Shape.elems_of h1
 obtain ⟨e2, -⟩ := Shape.elems_of h2
 subst e1
 subst e2
 exact same01_spec h1 h2

theorem heads_spec {S : Nat → Prop} {w : World}  :
 Calls Try.prog 12 #[] w (Ret fun v w' => Ext w w' ∧ v = .bool true) := by
 refine qS (fn := Try.f12) (n := 53) (σ := []) Try.func12 ?_
 have H := Hp.startF (w := w) (S := S) (G := []) .nil
 refine qR 3 [.c [1, 0], .c [2]] [] ?_
 refine qG (sq 0 2) ?_
 refine qK .seq (some 8) (sq 1 2) 7 #[] (new_spec (S := Av S w [] (idsOf [] []))) ?_
 rintro _ w1 - ⟨db2, x3, y4, rfl, H'⟩
 have H := H.back (M1 := []) (W1 := []) H'
 have H := H.perms (M' := ((diskM db2 (newD x3 y4) none 0))) (W' := [⟨stepS, 67, .slice none ((newD x3 y4).steps.length) 0, (newD x3 y4).steps⟩]) ((List.perm_append_comm (l₁ := diskM db2 (newD x3 y4) none 0) (l₂ := ([] : Heap))).symm) (List.Perm.refl _)
 have H : Hp w S [] ((diskM db2 (newD x3 y4) none 0)) [⟨stepS, 67, .slice none ((newD x3 y4).steps.length) 0, (newD x3 y4).steps⟩] [] _ := H
 have hokdb2 : DOk (newD x3 y4) := newD_ok x3 y4
 refine qF 1 [(1, .P db2 0)] ?_
 refine qR 6 [.c [3, 0], .c [4]] [(1, .P db2 0)] ?_
 refine WK.drawT1 4 [true, true, true, true] (.node [] (.cons 0 (.leaf [(2, .qui), (1, .chn), (3, .qui)]) (.cons 1 (.leaf [(0, .chn), (2, .qui), (3, .qui)]) .nil))) Try_mixed (by as_aux_lemma => kernel_rfl) (by as_aux_lemma => kernel_rfl) ?_
 have H := H.draw
 generalize ({ w1 with drawn := w1.drawn + 1 } : World) = w5 at H ⊢
 refine RT.node' [] (by as_aux_lemma => kernel_rfl) ?_
 refine RT.fin 0 [1] [(1, .P db2 0)] (by as_aux_lemma => kernel_rfl) ?_
 refine (RB.cons' ?_ (RB.cons' ?_ RB.nil'))
 ·
  refine RT.leaf' [(0, .chn), (2, .qui), (1, .chn), (3, .qui)] (by as_aux_lemma => kernel_rfl) ?_
  refine RW.makeW Sb (κ := .chn) (d := some 11) (r := [(2, .qui), (1, .chn), (3, .qui)]) (T := 24) (e := 5) (by_ := 1) (v0 := .int .u8 0) (0#8 : BitVec 8) (kl := .i64) (kc := .i64) (lv := 64) (cv := 64) (by as_aux_lemma => kernel_rfl) (nofun) (by as_aux_lemma => kernel_rfl) rfl H 64 64 (by omega) (by omega) (by omega) (by omega) (by omega) (fun _ _ => rfl) ?_
  intro b6 w7 H
  have H : Hp w S [] ((diskM db2 (newD x3 y4) none 0)) [⟨Sb, 5, .slice (some ⟨b6, 0, none⟩) 64 64, (List.replicate 64 (0#8 : BitVec 8))⟩, ⟨stepS, 67, .slice none ((newD x3 y4).steps.length) 0, (newD x3 y4).steps⟩] [] _ := H
  refine qP 1 [(1, .chn), (3, .qui)] [(1, .P db2 0), (2, .slice (some ⟨b6, 0, none⟩) 64 64)] ?_
  refine RW.makeW Sb (κ := .chn) (d := some 12) (r := [(3, .qui)]) (T := 24) (e := 5) (by_ := 1) (v0 := .int .u8 0) (0#8 : BitVec 8) (kl := .i64) (kc := .i64) (lv := 64) (cv := 64) (by as_aux_lemma => kernel_rfl) (nofun) (by as_aux_lemma => kernel_rfl) rfl H 64 64 (by omega) (by omega) (by omega) (by omega) (by omega) (fun _ _ => rfl) ?_
  intro b8 w9 H
  have H : Hp w S [] ((diskM db2 (newD x3 y4) none 0)) [⟨Sb, 5, .slice (some ⟨b8, 0, none⟩) 64 64, (List.replicate 64 (0#8 : BitVec 8))⟩, ⟨Sb, 5, .slice (some ⟨b6, 0, none⟩) 64 64, (List.replicate 64 (0#8 : BitVec 8))⟩, ⟨stepS, 67, .slice none ((newD x3 y4).steps.length) 0, (newD x3 y4).steps⟩] [] _ := H
  refine qF 1 [(1, .P db2 0), (2, .slice (some ⟨b6, 0, none⟩) 64 64), (3, .slice (some ⟨b8, 0, none⟩) 64 64)] ?_
  refine qR 1 [.c [4, 0], .c [5]] [(1, .P db2 0), (2, .slice (some ⟨b6, 0, none⟩) 64 64), (3, .slice (some ⟨b8, 0, none⟩) 64 64)] ?_
  refine qG (sq 0 6) ?_
  refine qP 2 (sq 2 6) [(1, .P db2 0), (2, .slice (some ⟨b6, 0, none⟩) 64 64), (3, .slice (some ⟨b8, 0, none⟩) 64 64), (13, .slice (some ⟨b6, 0, none⟩) 64 64), (14, .slice (some ⟨b8, 0, none⟩) 64 64)] ?_
  have H := H.frontW 1 (W' := [⟨Sb, 5, .slice (some ⟨b6, 0, none⟩) 64 64, (List.replicate 64 (0#8 : BitVec 8))⟩, ⟨Sb, 5, .slice (some ⟨b8, 0, none⟩) 64 64, (List.replicate 64 (0#8 : BitVec 8))⟩, ⟨stepS, 67, .slice none ((newD x3 y4).steps.length) 0, (newD x3 y4).steps⟩]) rfl
  have hn11 : 64 = (List.replicate 64 (0#8 : BitVec 8)).length := by simp
  have hx10 : 0 < (List.replicate 64 (0#8 : BitVec 8)).length := by simp
  refine RW.indexW (κ := .seq) (d := some 15) (r := (sq 3 6)) (T := 24) (e := 5) (m := 1) (ik := .i64) (ix := 0) (sh := Sb) (xs := (List.replicate 64 (0#8 : BitVec 8))) (a := (some ⟨b6, 0, none⟩)) (len := 64) (cap := 64) (by as_aux_lemma => kernel_rfl) (by as_aux_lemma => kernel_rfl) rfl H 0 (by omega) hx10 hn11 ?_
  intro b12 es13 ha14 hcell15 hr16
  obtain rfl := hr16
  refine RW.storeW (d := none) (r := (sq 4 6)) (e := 5) (m := 1) (b := b12) (k := 0) (v := .int .u8 1) (by as_aux_lemma => kernel_rfl) rfl (by as_aux_lemma => kernel_rfl) H ha14 hx10 hn11 (1#8) (Shape.bv_lit (x := 1#8) (by decide)) ?_
  intro w17 H
  have H := H.frontW 1 (W' := [⟨Sb, 5, .slice (some ⟨b8, 0, none⟩) 64 64, (List.replicate 64 (0#8 : BitVec 8))⟩, ⟨Sb, 5, .slice (some ⟨b6, 0, none⟩) 64 64, (List.replicate 64 (0#8 : BitVec 8)).set 0 (1#8)⟩, ⟨stepS, 67, .slice none ((newD x3 y4).steps.length) 0, (newD x3 y4).steps⟩]) rfl
  have hn19 : 64 = (List.replicate 64 (0#8 : BitVec 8)).length := by simp
  have hx18 : 0 < (List.replicate 64 (0#8 : BitVec 8)).length := by simp
  refine RW.indexW (κ := .seq) (d := some 16) (r := (sq 5 6)) (T := 24) (e := 5) (m := 1) (ik := .i64) (ix := 0) (sh := Sb) (xs := (List.replicate 64 (0#8 : BitVec 8))) (a := (some ⟨b8, 0, none⟩)) (len := 64) (cap := 64) (by as_aux_lemma => kernel_rfl) (by as_aux_lemma => kernel_rfl) rfl H 0 (by omega) hx18 hn19 ?_
  intro b20 es21 ha22 hcell23 hr24
  obtain rfl := hr24
  refine RW.storeW (d := none) (r := (sq 6 6)) (e := 5) (m := 1) (b := b20) (k := 0) (v := .int .u8 2) (by as_aux_lemma => kernel_rfl) rfl (by as_aux_lemma => kernel_rfl) H ha22 hx18 hn19 (2#8) (Shape.bv_lit (x := 2#8) (by decide)) ?_
  intro w25 H
  refine qF 0 [(1, .P db2 0), (2, .slice (some ⟨b6, 0, none⟩) 64 64), (3, .slice (some ⟨b8, 0, none⟩) 64 64)] ?_
  refine qR 1 [.c [5, 0], .c [6]] [(1, .P db2 0), (2, .slice (some ⟨b6, 0, none⟩) 64 64), (3, .slice (some ⟨b8, 0, none⟩) 64 64)] ?_
  refine qG (sq 0 4) ?_
  refine qP 2 (sq 2 4) [(1, .P db2 0), (2, .slice (some ⟨b6, 0, none⟩) 64 64), (3, .slice (some ⟨b8, 0, none⟩) 64 64), (17, .P db2 0), (18, .slice (some ⟨b6, 0, none⟩) 64 64)] ?_
  have H : Hp w S [] ((diskM db2 (newD x3 y4) none 0)) [⟨Sb, 5, .slice (some ⟨b8, 0, none⟩) 64 64, (List.replicate 64 (0#8 : BitVec 8)).set 0 (2#8)⟩, ⟨stepS, 67, .slice none ((newD x3 y4).steps.length) 0, (newD x3 y4).steps⟩] [Rp SB [.slice (some ⟨b6, 0, none⟩) 64 64] ((List.replicate 64 (0#8 : BitVec 8)).set 0 (1#8))] _ := H.freezeW 1 rfl
  have H := H.frontW 1 (W' := [⟨stepS, 67, .slice none ((newD x3 y4).steps.length) 0, (newD x3 y4).steps⟩, ⟨Sb, 5, .slice (some ⟨b8, 0, none⟩) 64 64, (List.replicate 64 (0#8 : BitVec 8)).set 0 (2#8)⟩]) rfl
  have H := H.perms (M' := diskM db2 (newD x3 y4) none 0 ++ []) (W' := [⟨stepS, 67, .slice none ((newD x3 y4).steps.length) 0, (newD x3 y4).steps⟩, ⟨Sb, 5, .slice (some ⟨b8, 0, none⟩) 64 64, (List.replicate 64 (0#8 : BitVec 8)).set 0 (2#8)⟩]) (List.perm_append_comm (l₁ := diskM db2 (newD x3 y4) none 0) (l₂ := ([] : Heap))) (List.Perm.refl _)
  refine RW.callS (d := some 19) (r := (sq 3 4)) (g := 8) (args := #[.P db2 0, .string (⟨#[97]⟩ : ByteArray), .I 0, .slice (some ⟨b6, 0, none⟩) 64 64]) (by as_aux_lemma => kernel_rfl) (dWriteN (hokdb2) (by first | omega | exact Nat.zero_le _) (rfl) (fun h => by cases h) (by first | assumption | decide | (simp [maxLen]; done)) (by decide) (xs := ((List.replicate 64 (0#8 : BitVec 8)).set 0 (1#8))) (by simp) ((H.lend (M1 := diskM db2 (newD x3 y4) none 0) (W1 := [⟨stepS, 67, .slice none ((newD x3 y4).steps.length) 0, (newD x3 y4).steps⟩])).pick [0] rfl)) ?_
  rintro _ w26 ⟨D27, sa28, sk29, ⟨e30, rfl, hR31⟩, H'⟩
  have H := H.back (M1 := diskM db2 (newD x3 y4) none 0) (W1 := [⟨stepS, 67, .slice none ((newD x3 y4).steps.length) 0, (newD x3 y4).steps⟩]) H'
  have H := H.perms (M' := ((diskM db2 D27 sa28 sk29))) (W' := [⟨stepS, 67, .slice sa28 D27.steps.length sk29, D27.steps⟩, ⟨Sb, 5, .slice (some ⟨b8, 0, none⟩) 64 64, (List.replicate 64 (0#8 : BitVec 8)).set 0 (2#8)⟩]) ((List.perm_append_comm (l₁ := diskM db2 D27 sa28 sk29) (l₂ := ([] : Heap))).symm) (List.Perm.refl _)
  have H : Hp w S [] ((diskM db2 D27 sa28 sk29)) [⟨stepS, 67, .slice sa28 D27.steps.length sk29, D27.steps⟩, ⟨Sb, 5, .slice (some ⟨b8, 0, none⟩) 64 64, (List.replicate 64 (0#8 : BitVec 8)).set 0 (2#8)⟩] [Rp SB [.slice (some ⟨b6, 0, none⟩) 64 64] ((List.replicate 64 (0#8 : BitVec 8)).set 0 (1#8))] _ := H
  have hR31 : WriteR (newD x3 y4) (⟨#[97]⟩ : ByteArray) 0 ((List.replicate 64 (0#8 : BitVec 8)).set 0 (1#8)) e30 D27 := hR31
  have hokA := WriteR.ok hokdb2 (by decide) hR31
  obtain ⟨he1, fA, oA, -, -, -, -, sA, arA, deA, -, -⟩ := write_first nm_a (by decide) (by decide) hR31
  have hlA : D27.steps.length ≤ 2 := by rw [sA]; exact Nat.le_refl 2
  subst he1
  refine qF 1 [(1, .P db2 0), (2, .slice (some ⟨b6, 0, none⟩) 64 64), (3, .slice (some ⟨b8, 0, none⟩) 64 64), (4, .I 0)] ?_
  refine qR 1 [.c [6, 0], .c [7]] [(1, .P db2 0), (2, .slice (some ⟨b6, 0, none⟩) 64 64), (3, .slice (some ⟨b8, 0, none⟩) 64 64), (4, .I 0)] ?_
  refine qG (sq 0 3) ?_
  refine qP 1 (sq 1 3) [(1, .P db2 0), (2, .slice (some ⟨b6, 0, none⟩) 64 64), (3, .slice (some ⟨b8, 0, none⟩) 64 64), (4, .I 0), (20, .P db2 0)] ?_
  have H := H.perms (M' := diskM db2 D27 sa28 sk29 ++ []) (W' := [⟨stepS, 67, .slice sa28 D27.steps.length sk29, D27.steps⟩, ⟨Sb, 5, .slice (some ⟨b8, 0, none⟩) 64 64, (List.replicate 64 (0#8 : BitVec 8)).set 0 (2#8)⟩]) (List.perm_append_comm (l₁ := diskM db2 D27 sa28 sk29) (l₂ := ([] : Heap))) (List.Perm.refl _)
  refine RW.callS (d := some 21) (r := (sq 2 3)) (g := 9) (args := #[.P db2 0, .string (⟨#[97]⟩ : ByteArray)]) (by as_aux_lemma => kernel_rfl) (dSync (hokA) (by first | omega | exact Nat.zero_le _) (deA) (fun h => by rw [arA] at h; cases h) ((H.lend (M1 := diskM db2 D27 sa28 sk29) (W1 := [⟨stepS, 67, .slice sa28 D27.steps.length sk29, D27.steps⟩])).pick [] rfl)) ?_
  rintro _ w32 ⟨D33, sa34, sk35, ⟨e36, rfl, hR37⟩, H'⟩
  have H := H.back (M1 := diskM db2 D27 sa28 sk29) (W1 := [⟨stepS, 67, .slice sa28 D27.steps.length sk29, D27.steps⟩]) H'
  have H := H.perms (M' := ((diskM db2 D33 sa34 sk35))) (W' := [⟨stepS, 67, .slice sa34 D33.steps.length sk35, D33.steps⟩, ⟨Sb, 5, .slice (some ⟨b8, 0, none⟩) 64 64, (List.replicate 64 (0#8 : BitVec 8)).set 0 (2#8)⟩]) ((List.perm_append_comm (l₁ := diskM db2 D33 sa34 sk35) (l₂ := ([] : Heap))).symm) (List.Perm.refl _)
  have H : Hp w S [] ((diskM db2 D33 sa34 sk35)) [⟨stepS, 67, .slice sa34 D33.steps.length sk35, D33.steps⟩, ⟨Sb, 5, .slice (some ⟨b8, 0, none⟩) 64 64, (List.replicate 64 (0#8 : BitVec 8)).set 0 (2#8)⟩] [Rp SB [.slice (some ⟨b6, 0, none⟩) 64 64] ((List.replicate 64 (0#8 : BitVec 8)).set 0 (1#8))] _ := H
  have hR37 : SyncR D27 (⟨#[97]⟩ : ByteArray) e36 D33 := hR37
  have hokB := SyncR.ok hokA hR37
  obtain ⟨he2, oB, -, sB, arB, deB⟩ := sync_one oA arA hR37
  have hlB : D33.steps.length ≤ 2 := by rw [sB]; exact Nat.le_trans (List.length_filter_le _ _) hlA
  subst he2
  refine qF 1 [(1, .P db2 0), (2, .slice (some ⟨b6, 0, none⟩) 64 64), (3, .slice (some ⟨b8, 0, none⟩) 64 64), (4, .I 0), (5, .I 0)] ?_
  refine qR 1 [.c [7, 0], .c [8]] [(1, .P db2 0), (2, .slice (some ⟨b6, 0, none⟩) 64 64), (3, .slice (some ⟨b8, 0, none⟩) 64 64), (4, .I 0), (5, .I 0)] ?_
  refine qG (sq 0 3) ?_
  refine qP 2 (sq 2 3) [(1, .P db2 0), (2, .slice (some ⟨b6, 0, none⟩) 64 64), (4, .I 0), (5, .I 0), (22, .P db2 0), (23, .slice (some ⟨b8, 0, none⟩) 64 64)] ?_
  have H : Hp w S [] ((diskM db2 D33 sa34 sk35)) [⟨stepS, 67, .slice sa34 D33.steps.length sk35, D33.steps⟩] [Rp SB [.slice (some ⟨b8, 0, none⟩) 64 64] ((List.replicate 64 (0#8 : BitVec 8)).set 0 (2#8)), Rp SB [.slice (some ⟨b6, 0, none⟩) 64 64] ((List.replicate 64 (0#8 : BitVec 8)).set 0 (1#8))] _ := H.freezeW 1 rfl
  have H := H.perms (M' := diskM db2 D33 sa34 sk35 ++ []) (W' := [⟨stepS, 67, .slice sa34 D33.steps.length sk35, D33.steps⟩]) (List.perm_append_comm (l₁ := diskM db2 D33 sa34 sk35) (l₂ := ([] : Heap))) (List.Perm.refl _)
  refine RW.callS (d := some 24) (r := (sq 3 3)) (g := 8) (args := #[.P db2 0, .string (⟨#[97]⟩ : ByteArray), .I 0, .slice (some ⟨b8, 0, none⟩) 64 64]) (by as_aux_lemma => kernel_rfl) (dWriteN (hokB) (by first | omega | exact Nat.zero_le _) (deB.trans deA) (fun h => by rw [arB] at h; cases h) (by first | assumption | decide | (simp [maxLen]; done)) (by decide) (xs := ((List.replicate 64 (0#8 : BitVec 8)).set 0 (2#8))) (by simp) ((H.lend (M1 := diskM db2 D33 sa34 sk35) (W1 := [⟨stepS, 67, .slice sa34 D33.steps.length sk35, D33.steps⟩])).pick [0] rfl)) ?_
  rintro _ w38 ⟨D39, sa40, sk41, ⟨e42, rfl, hR43⟩, H'⟩
  have H := H.back (M1 := diskM db2 D33 sa34 sk35) (W1 := [⟨stepS, 67, .slice sa34 D33.steps.length sk35, D33.steps⟩]) H'
  have H := H.perms (M' := ((diskM db2 D39 sa40 sk41))) (W' := [⟨stepS, 67, .slice sa40 D39.steps.length sk41, D39.steps⟩]) ((List.perm_append_comm (l₁ := diskM db2 D39 sa40 sk41) (l₂ := ([] : Heap))).symm) (List.Perm.refl _)
  have H : Hp w S [] ((diskM db2 D39 sa40 sk41)) [⟨stepS, 67, .slice sa40 D39.steps.length sk41, D39.steps⟩] [Rp SB [.slice (some ⟨b8, 0, none⟩) 64 64] ((List.replicate 64 (0#8 : BitVec 8)).set 0 (2#8)), Rp SB [.slice (some ⟨b6, 0, none⟩) 64 64] ((List.replicate 64 (0#8 : BitVec 8)).set 0 (1#8))] _ := H
  have hR43 : WriteR D33 (⟨#[97]⟩ : ByteArray) 0 ((List.replicate 64 (0#8 : BitVec 8)).set 0 (2#8)) e42 D39 := hR43
  have hokC := WriteR.ok hokB (by decide) hR43
  obtain ⟨he3, -, -, -, sC, -, -⟩ := write_more oB arB nm_a (by decide) (by decide) hR43
  have hlC : D39.steps.length ≤ 3 := by rw [sC, List.length_append]; simp only [List.length_cons, List.length_nil]; omega
  subst he3
  refine qF 0 [(1, .P db2 0), (2, .slice (some ⟨b6, 0, none⟩) 64 64), (4, .I 0), (5, .I 0)] ?_
  refine qR 1 [.c [8, 0], .c [9]] [(1, .P db2 0), (2, .slice (some ⟨b6, 0, none⟩) 64 64), (4, .I 0), (5, .I 0)] ?_
  refine qG (sq 0 3) ?_
  refine qP 1 (sq 1 3) [(1, .P db2 0), (2, .slice (some ⟨b6, 0, none⟩) 64 64), (4, .I 0), (5, .I 0), (25, .P db2 0)] ?_
  refine RW.new (κ := .seq) (d := some 26) (r := (sq 2 3)) (o := .cells #[.int .u8 0] 5 (0, 0)) (v := fun b => .slice (some ⟨b, 0, none⟩) 1 1) (fun b => by as_aux_lemma => kernel_rfl) (nofun) H ?_
  intro b44 w45 H
  have H := H.freeze 0 rfl Sb ([0#8] : List (BitVec 8)) 1 (by simp [maxLen]) (by first | exact Nat.le_refl _ | simp) (EsP.cons (c := [.int .u8 0]) (Shape.bv_lit (x := 0#8) (by decide)) EsP.nil)
  have H : Hp w S [] ((diskM db2 D39 sa40 sk41)) [⟨stepS, 67, .slice sa40 D39.steps.length sk41, D39.steps⟩] [Rp SB [.slice (some ⟨b44, 0, none⟩) 1 1] ([0#8] : List (BitVec 8)), Rp SB [.slice (some ⟨b8, 0, none⟩) 64 64] ((List.replicate 64 (0#8 : BitVec 8)).set 0 (2#8)), Rp SB [.slice (some ⟨b6, 0, none⟩) 64 64] ((List.replicate 64 (0#8 : BitVec 8)).set 0 (1#8))] _ := H
  have H := H.perms (M' := diskM db2 D39 sa40 sk41 ++ []) (W' := [⟨stepS, 67, .slice sa40 D39.steps.length sk41, D39.steps⟩]) (List.perm_append_comm (l₁ := diskM db2 D39 sa40 sk41) (l₂ := ([] : Heap))) (List.Perm.refl _)
  refine RW.callS (d := some 27) (r := (sq 3 3)) (g := 10) (args := #[.P db2 0, .slice (some ⟨b44, 0, none⟩) 1 1]) (by as_aux_lemma => kernel_rfl) (dCrashN (hokC) (by first | omega | exact Nat.zero_le _) (by decide) (xs := ([0#8] : List (BitVec 8))) (by simp) ((H.lend (M1 := diskM db2 D39 sa40 sk41) (W1 := [⟨stepS, 67, .slice sa40 D39.steps.length sk41, D39.steps⟩])).pick [0] rfl)) ?_
  rintro _ w46 ⟨rfl, ns47, nb48, H'⟩
  have H := H.back (M1 := diskM db2 D39 sa40 sk41) (W1 := [⟨stepS, 67, .slice sa40 D39.steps.length sk41, D39.steps⟩]) H'
  have H := H.perms (M' := ((diskM db2 (crashD D39 ([0#8] : List (BitVec 8)) ns47 nb48) none 0))) (W' := [⟨stepS, 67, .slice none ((crashD D39 ([0#8] : List (BitVec 8)) ns47 nb48).steps.length) 0, (crashD D39 ([0#8] : List (BitVec 8)) ns47 nb48).steps⟩]) ((List.perm_append_comm (l₁ := diskM db2 (crashD D39 ([0#8] : List (BitVec 8)) ns47 nb48) none 0) (l₂ := ([] : Heap))).symm) (List.Perm.refl _)
  have H : Hp w S [] ((diskM db2 (crashD D39 ([0#8] : List (BitVec 8)) ns47 nb48) none 0)) [⟨stepS, 67, .slice none ((crashD D39 ([0#8] : List (BitVec 8)) ns47 nb48).steps.length) 0, (crashD D39 ([0#8] : List (BitVec 8)) ns47 nb48).steps⟩] [Rp SB [.slice (some ⟨b44, 0, none⟩) 1 1] ([0#8] : List (BitVec 8)), Rp SB [.slice (some ⟨b8, 0, none⟩) 64 64] ((List.replicate 64 (0#8 : BitVec 8)).set 0 (2#8)), Rp SB [.slice (some ⟨b6, 0, none⟩) 64 64] ((List.replicate 64 (0#8 : BitVec 8)).set 0 (1#8))] _ := H
  have hokD := hokC.crashD' [0#8] ns47 nb48
  obtain ⟨-, -, -, -, fD, filesD, nowD, sizeD, getD⟩ := heads_law nm_a hR31 hR37 hR43 ns47 nb48
  refine qF 0 [(1, .P db2 0), (2, .slice (some ⟨b6, 0, none⟩) 64 64), (4, .I 0), (5, .I 0)] ?_
  refine qR 1 [.c [9, 0], .c [10]] [(1, .P db2 0), (2, .slice (some ⟨b6, 0, none⟩) 64 64), (4, .I 0), (5, .I 0)] ?_
  refine qG (sq 0 7) ?_
  refine qP 1 (sq 1 7) [(1, .P db2 0), (2, .slice (some ⟨b6, 0, none⟩) 64 64), (4, .I 0), (5, .I 0), (29, .P db2 0)] ?_
  have H := H.perms (M' := diskM db2 (crashD D39 ([0#8] : List (BitVec 8)) ns47 nb48) none 0 ++ []) (W' := [⟨stepS, 67, .slice none ((crashD D39 ([0#8] : List (BitVec 8)) ns47 nb48).steps.length) 0, (crashD D39 ([0#8] : List (BitVec 8)) ns47 nb48).steps⟩]) (List.perm_append_comm (l₁ := diskM db2 (crashD D39 ([0#8] : List (BitVec 8)) ns47 nb48) none 0) (l₂ := ([] : Heap))) (List.Perm.refl _)
  refine RW.callS (d := some 30) (r := (sq 2 7)) (g := 13) (args := #[.P db2 0, .string (⟨#[97]⟩ : ByteArray), .I 0]) (by as_aux_lemma => kernel_rfl) ((dReadHit hokD rfl (f := fD) (by rw [filesD]; exact List.mem_cons_self ..) nowD ⟨Int.le_refl _, by rw [sizeD]; decide⟩) ((H.lend (M1 := diskM db2 (crashD D39 ([0#8] : List (BitVec 8)) ns47 nb48) none 0) (W1 := [⟨stepS, 67, .slice none ((crashD D39 ([0#8] : List (BitVec 8)) ns47 nb48).steps.length) 0, (crashD D39 ([0#8] : List (BitVec 8)) ns47 nb48).steps⟩])).pick [] rfl)) ?_
  rintro _ w49 ⟨a50, c51, rfl, H'⟩
  have H := H.back (M1 := diskM db2 (crashD D39 ([0#8] : List (BitVec 8)) ns47 nb48) none 0) (W1 := [⟨stepS, 67, .slice none ((crashD D39 ([0#8] : List (BitVec 8)) ns47 nb48).steps.length) 0, (crashD D39 ([0#8] : List (BitVec 8)) ns47 nb48).steps⟩]) H'
  have H := H.perms (M' := ((diskM db2 (crashD D39 ([0#8] : List (BitVec 8)) ns47 nb48) none 0))) (W' := [⟨Sb, 5, .slice a50 ((secL ((mfind 0 fD.now).getD zeroSec)).length) c51, (secL ((mfind 0 fD.now).getD zeroSec))⟩, ⟨stepS, 67, .slice none ((crashD D39 ([0#8] : List (BitVec 8)) ns47 nb48).steps.length) 0, (crashD D39 ([0#8] : List (BitVec 8)) ns47 nb48).steps⟩]) ((List.perm_append_comm (l₁ := diskM db2 (crashD D39 ([0#8] : List (BitVec 8)) ns47 nb48) none 0) (l₂ := ([] : Heap))).symm) (List.Perm.refl _)
  have H : Hp w S [] ((diskM db2 (crashD D39 ([0#8] : List (BitVec 8)) ns47 nb48) none 0)) [⟨Sb, 5, .slice a50 ((secL ((mfind 0 fD.now).getD zeroSec)).length) c51, (secL ((mfind 0 fD.now).getD zeroSec))⟩, ⟨stepS, 67, .slice none ((crashD D39 ([0#8] : List (BitVec 8)) ns47 nb48).steps.length) 0, (crashD D39 ([0#8] : List (BitVec 8)) ns47 nb48).steps⟩] [Rp SB [.slice (some ⟨b44, 0, none⟩) 1 1] ([0#8] : List (BitVec 8)), Rp SB [.slice (some ⟨b8, 0, none⟩) 64 64] ((List.replicate 64 (0#8 : BitVec 8)).set 0 (2#8)), Rp SB [.slice (some ⟨b6, 0, none⟩) 64 64] ((List.replicate 64 (0#8 : BitVec 8)).set 0 (1#8))] _ := H
  refine qF 5 [(1, .P db2 0), (2, .slice (some ⟨b6, 0, none⟩) 64 64), (4, .I 0), (5, .I 0), (6, .slice a50 ((secL ((mfind 0 fD.now).getD zeroSec)).length) c51), (7, .I 0)] ?_
  refine qR 1 [.c [10, 0], .c [11]] [(1, .P db2 0), (2, .slice (some ⟨b6, 0, none⟩) 64 64), (4, .I 0), (5, .I 0), (6, .slice a50 ((secL ((mfind 0 fD.now).getD zeroSec)).length) c51), (7, .I 0)] ?_
  refine qG (sq 0 21) ?_
  refine qP 13 (sq 13 21) [(1, .P db2 0), (43, .bool true), (44, .slice a50 ((secL ((mfind 0 fD.now).getD zeroSec)).length) c51), (45, .slice (some ⟨b6, 0, none⟩) 64 64)] ?_
  have H : Hp w S [] ((diskM db2 (crashD D39 ([0#8] : List (BitVec 8)) ns47 nb48) none 0)) [⟨stepS, 67, .slice none ((crashD D39 ([0#8] : List (BitVec 8)) ns47 nb48).steps.length) 0, (crashD D39 ([0#8] : List (BitVec 8)) ns47 nb48).steps⟩] [Rp SB [.slice a50 ((secL ((mfind 0 fD.now).getD zeroSec)).length) c51] (secL ((mfind 0 fD.now).getD zeroSec)), Rp SB [.slice (some ⟨b44, 0, none⟩) 1 1] ([0#8] : List (BitVec 8)), Rp SB [.slice (some ⟨b8, 0, none⟩) 64 64] ((List.replicate 64 (0#8 : BitVec 8)).set 0 (2#8)), Rp SB [.slice (some ⟨b6, 0, none⟩) 64 64] ((List.replicate 64 (0#8 : BitVec 8)).set 0 (1#8))] _ := H.freezeW 0 rfl
  refine qK .seq (some 46) (sq 14 21) 14 #[.slice a50 ((secL ((mfind 0 fD.now).getD zeroSec)).length) c51, .slice (some ⟨b6, 0, none⟩) 64 64] (same01N (S := Av S w [] (idsOf ((diskM db2 (crashD D39 ([0#8] : List (BitVec 8)) ns47 nb48) none 0)) [⟨stepS, 67, .slice none ((crashD D39 ([0#8] : List (BitVec 8)) ns47 nb48).steps.length) 0, (crashD D39 ([0#8] : List (BitVec 8)) ns47 nb48).steps⟩])) (xs := (secL ((mfind 0 fD.now).getD zeroSec))) (ys := (List.replicate 64 (0#8 : BitVec 8)).set 0 (1#8)) (H.rp 0 rfl) (H.rp 3 rfl)) ?_
  rintro _ w52 hE53 rfl
  have H := H.ext hE53
  rw [sameB_eq (by rw [getD]; exact secL_same rfl)]
  refine qP 3 (sq 17 21) [(48, .bool true), (49, .P db2 0)] ?_
  have H := H.add (F := Rp SB [.slice none 0 0] ([] : List (BitVec 8))) Shape.slice_nil
  have H := H.perms (M' := diskM db2 (crashD D39 ([0#8] : List (BitVec 8)) ns47 nb48) none 0 ++ []) (W' := [⟨stepS, 67, .slice none ((crashD D39 ([0#8] : List (BitVec 8)) ns47 nb48).steps.length) 0, (crashD D39 ([0#8] : List (BitVec 8)) ns47 nb48).steps⟩]) (List.perm_append_comm (l₁ := diskM db2 (crashD D39 ([0#8] : List (BitVec 8)) ns47 nb48) none 0) (l₂ := ([] : Heap))) (List.Perm.refl _)
  refine RW.callS (d := some 50) (r := (sq 18 21)) (g := 8) (args := #[.P db2 0, .string (⟨#[97]⟩ : ByteArray), .I 0, .slice none 0 0]) (by as_aux_lemma => kernel_rfl) (dWriteN (hokD) (by first | omega | exact Nat.zero_le _) (rfl) (fun h => by cases h) (by first | assumption | decide | (simp [maxLen]; done)) (by decide) (xs := ([] : List (BitVec 8))) (by simp) ((H.lend (M1 := diskM db2 (crashD D39 ([0#8] : List (BitVec 8)) ns47 nb48) none 0) (W1 := [⟨stepS, 67, .slice none ((crashD D39 ([0#8] : List (BitVec 8)) ns47 nb48).steps.length) 0, (crashD D39 ([0#8] : List (BitVec 8)) ns47 nb48).steps⟩])).pick [0] rfl)) ?_
  rintro _ w54 ⟨D55, sa56, sk57, ⟨e58, rfl, hR59⟩, H'⟩
  have H := H.back (M1 := diskM db2 (crashD D39 ([0#8] : List (BitVec 8)) ns47 nb48) none 0) (W1 := [⟨stepS, 67, .slice none ((crashD D39 ([0#8] : List (BitVec 8)) ns47 nb48).steps.length) 0, (crashD D39 ([0#8] : List (BitVec 8)) ns47 nb48).steps⟩]) H'
  have H := H.perms (M' := ((diskM db2 D55 sa56 sk57))) (W' := [⟨stepS, 67, .slice sa56 D55.steps.length sk57, D55.steps⟩]) ((List.perm_append_comm (l₁ := diskM db2 D55 sa56 sk57) (l₂ := ([] : Heap))).symm) (List.Perm.refl _)
  have H : Hp w S [] ((diskM db2 D55 sa56 sk57)) [⟨stepS, 67, .slice sa56 D55.steps.length sk57, D55.steps⟩] [Rp SB [.slice none 0 0] ([] : List (BitVec 8)), Rp SB [.slice a50 ((secL ((mfind 0 fD.now).getD zeroSec)).length) c51] (secL ((mfind 0 fD.now).getD zeroSec)), Rp SB [.slice (some ⟨b44, 0, none⟩) 1 1] ([0#8] : List (BitVec 8)), Rp SB [.slice (some ⟨b8, 0, none⟩) 64 64] ((List.replicate 64 (0#8 : BitVec 8)).set 0 (2#8)), Rp SB [.slice (some ⟨b6, 0, none⟩) 64 64] ((List.replicate 64 (0#8 : BitVec 8)).set 0 (1#8))] _ := H
  have hR59 : WriteR (crashD D39 ([0#8] : List (BitVec 8)) ns47 nb48) (⟨#[97]⟩ : ByteArray) 0 ([] : List (BitVec 8)) e58 D55 := hR59
  obtain he5 : e58 = 2 := by
   rcases hR59 with ⟨h1, h2, -⟩ | ⟨-, h1, -⟩ | ⟨-, h1, -⟩ | ⟨-, h1, -⟩
   · exact h1.trans (if_pos (by simp))
   all_goals exact absurd h1 (by unfold wArg; rw [if_pos (by simp)]; decide)
  subst he5
  refine qF 3 [(0, .bool true)] ?_
  refine qT (.bool true) Try.func12 ?_
  exact ⟨_, rfl, H.done, rfl⟩
 ·
  refine RT.leaf' [(1, .chn), (0, .chn), (2, .qui), (3, .qui)] (by as_aux_lemma => kernel_rfl) ?_
  refine RW.makeW Sb (κ := .chn) (d := some 12) (r := [(0, .chn), (2, .qui), (3, .qui)]) (T := 24) (e := 5) (by_ := 1) (v0 := .int .u8 0) (0#8 : BitVec 8) (kl := .i64) (kc := .i64) (lv := 64) (cv := 64) (by as_aux_lemma => kernel_rfl) (nofun) (by as_aux_lemma => kernel_rfl) rfl H 64 64 (by omega) (by omega) (by omega) (by omega) (by omega) (fun _ _ => rfl) ?_
  intro b60 w61 H
  have H : Hp w S [] ((diskM db2 (newD x3 y4) none 0)) [⟨Sb, 5, .slice (some ⟨b60, 0, none⟩) 64 64, (List.replicate 64 (0#8 : BitVec 8))⟩, ⟨stepS, 67, .slice none ((newD x3 y4).steps.length) 0, (newD x3 y4).steps⟩] [] _ := H
  refine RW.makeW Sb (κ := .chn) (d := some 11) (r := (qs [2, 3])) (T := 24) (e := 5) (by_ := 1) (v0 := .int .u8 0) (0#8 : BitVec 8) (kl := .i64) (kc := .i64) (lv := 64) (cv := 64) (by as_aux_lemma => kernel_rfl) (nofun) (by as_aux_lemma => kernel_rfl) rfl H 64 64 (by omega) (by omega) (by omega) (by omega) (by omega) (fun _ _ => rfl) ?_
  intro b62 w63 H
  have H : Hp w S [] ((diskM db2 (newD x3 y4) none 0)) [⟨Sb, 5, .slice (some ⟨b62, 0, none⟩) 64 64, (List.replicate 64 (0#8 : BitVec 8))⟩, ⟨Sb, 5, .slice (some ⟨b60, 0, none⟩) 64 64, (List.replicate 64 (0#8 : BitVec 8))⟩, ⟨stepS, 67, .slice none ((newD x3 y4).steps.length) 0, (newD x3 y4).steps⟩] [] _ := H
  refine qF 2 [(1, .P db2 0), (2, .slice (some ⟨b62, 0, none⟩) 64 64), (3, .slice (some ⟨b60, 0, none⟩) 64 64)] ?_
  refine qR 1 [.c [4, 0], .c [5]] [(1, .P db2 0), (2, .slice (some ⟨b62, 0, none⟩) 64 64), (3, .slice (some ⟨b60, 0, none⟩) 64 64)] ?_
  refine qG (sq 0 6) ?_
  refine qP 2 (sq 2 6) [(1, .P db2 0), (2, .slice (some ⟨b62, 0, none⟩) 64 64), (3, .slice (some ⟨b60, 0, none⟩) 64 64), (13, .slice (some ⟨b62, 0, none⟩) 64 64), (14, .slice (some ⟨b60, 0, none⟩) 64 64)] ?_
  have hn65 : 64 = (List.replicate 64 (0#8 : BitVec 8)).length := by simp
  have hx64 : 0 < (List.replicate 64 (0#8 : BitVec 8)).length := by simp
  refine RW.indexW (κ := .seq) (d := some 15) (r := (sq 3 6)) (T := 24) (e := 5) (m := 1) (ik := .i64) (ix := 0) (sh := Sb) (xs := (List.replicate 64 (0#8 : BitVec 8))) (a := (some ⟨b62, 0, none⟩)) (len := 64) (cap := 64) (by as_aux_lemma => kernel_rfl) (by as_aux_lemma => kernel_rfl) rfl H 0 (by omega) hx64 hn65 ?_
  intro b66 es67 ha68 hcell69 hr70
  obtain rfl := hr70
  refine RW.storeW (d := none) (r := (sq 4 6)) (e := 5) (m := 1) (b := b66) (k := 0) (v := .int .u8 1) (by as_aux_lemma => kernel_rfl) rfl (by as_aux_lemma => kernel_rfl) H ha68 hx64 hn65 (1#8) (Shape.bv_lit (x := 1#8) (by decide)) ?_
  intro w71 H
  have H := H.frontW 1 (W' := [⟨Sb, 5, .slice (some ⟨b60, 0, none⟩) 64 64, (List.replicate 64 (0#8 : BitVec 8))⟩, ⟨Sb, 5, .slice (some ⟨b62, 0, none⟩) 64 64, (List.replicate 64 (0#8 : BitVec 8)).set 0 (1#8)⟩, ⟨stepS, 67, .slice none ((newD x3 y4).steps.length) 0, (newD x3 y4).steps⟩]) rfl
  have hn73 : 64 = (List.replicate 64 (0#8 : BitVec 8)).length := by simp
  have hx72 : 0 < (List.replicate 64 (0#8 : BitVec 8)).length := by simp
  refine RW.indexW (κ := .seq) (d := some 16) (r := (sq 5 6)) (T := 24) (e := 5) (m := 1) (ik := .i64) (ix := 0) (sh := Sb) (xs := (List.replicate 64 (0#8 : BitVec 8))) (a := (some ⟨b60, 0, none⟩)) (len := 64) (cap := 64) (by as_aux_lemma => kernel_rfl) (by as_aux_lemma => kernel_rfl) rfl H 0 (by omega) hx72 hn73 ?_
  intro b74 es75 ha76 hcell77 hr78
  obtain rfl := hr78
  refine RW.storeW (d := none) (r := (sq 6 6)) (e := 5) (m := 1) (b := b74) (k := 0) (v := .int .u8 2) (by as_aux_lemma => kernel_rfl) rfl (by as_aux_lemma => kernel_rfl) H ha76 hx72 hn73 (2#8) (Shape.bv_lit (x := 2#8) (by decide)) ?_
  intro w79 H
  refine qF 0 [(1, .P db2 0), (2, .slice (some ⟨b62, 0, none⟩) 64 64), (3, .slice (some ⟨b60, 0, none⟩) 64 64)] ?_
  refine qR 1 [.c [5, 0], .c [6]] [(1, .P db2 0), (2, .slice (some ⟨b62, 0, none⟩) 64 64), (3, .slice (some ⟨b60, 0, none⟩) 64 64)] ?_
  refine qG (sq 0 4) ?_
  refine qP 2 (sq 2 4) [(1, .P db2 0), (2, .slice (some ⟨b62, 0, none⟩) 64 64), (3, .slice (some ⟨b60, 0, none⟩) 64 64), (17, .P db2 0), (18, .slice (some ⟨b62, 0, none⟩) 64 64)] ?_
  have H : Hp w S [] ((diskM db2 (newD x3 y4) none 0)) [⟨Sb, 5, .slice (some ⟨b60, 0, none⟩) 64 64, (List.replicate 64 (0#8 : BitVec 8)).set 0 (2#8)⟩, ⟨stepS, 67, .slice none ((newD x3 y4).steps.length) 0, (newD x3 y4).steps⟩] [Rp SB [.slice (some ⟨b62, 0, none⟩) 64 64] ((List.replicate 64 (0#8 : BitVec 8)).set 0 (1#8))] _ := H.freezeW 1 rfl
  have H := H.frontW 1 (W' := [⟨stepS, 67, .slice none ((newD x3 y4).steps.length) 0, (newD x3 y4).steps⟩, ⟨Sb, 5, .slice (some ⟨b60, 0, none⟩) 64 64, (List.replicate 64 (0#8 : BitVec 8)).set 0 (2#8)⟩]) rfl
  have H := H.perms (M' := diskM db2 (newD x3 y4) none 0 ++ []) (W' := [⟨stepS, 67, .slice none ((newD x3 y4).steps.length) 0, (newD x3 y4).steps⟩, ⟨Sb, 5, .slice (some ⟨b60, 0, none⟩) 64 64, (List.replicate 64 (0#8 : BitVec 8)).set 0 (2#8)⟩]) (List.perm_append_comm (l₁ := diskM db2 (newD x3 y4) none 0) (l₂ := ([] : Heap))) (List.Perm.refl _)
  refine RW.callS (d := some 19) (r := (sq 3 4)) (g := 8) (args := #[.P db2 0, .string (⟨#[97]⟩ : ByteArray), .I 0, .slice (some ⟨b62, 0, none⟩) 64 64]) (by as_aux_lemma => kernel_rfl) (dWriteN (hokdb2) (by first | omega | exact Nat.zero_le _) (rfl) (fun h => by cases h) (by first | assumption | decide | (simp [maxLen]; done)) (by decide) (xs := ((List.replicate 64 (0#8 : BitVec 8)).set 0 (1#8))) (by simp) ((H.lend (M1 := diskM db2 (newD x3 y4) none 0) (W1 := [⟨stepS, 67, .slice none ((newD x3 y4).steps.length) 0, (newD x3 y4).steps⟩])).pick [0] rfl)) ?_
  rintro _ w80 ⟨D81, sa82, sk83, ⟨e84, rfl, hR85⟩, H'⟩
  have H := H.back (M1 := diskM db2 (newD x3 y4) none 0) (W1 := [⟨stepS, 67, .slice none ((newD x3 y4).steps.length) 0, (newD x3 y4).steps⟩]) H'
  have H := H.perms (M' := ((diskM db2 D81 sa82 sk83))) (W' := [⟨stepS, 67, .slice sa82 D81.steps.length sk83, D81.steps⟩, ⟨Sb, 5, .slice (some ⟨b60, 0, none⟩) 64 64, (List.replicate 64 (0#8 : BitVec 8)).set 0 (2#8)⟩]) ((List.perm_append_comm (l₁ := diskM db2 D81 sa82 sk83) (l₂ := ([] : Heap))).symm) (List.Perm.refl _)
  have H : Hp w S [] ((diskM db2 D81 sa82 sk83)) [⟨stepS, 67, .slice sa82 D81.steps.length sk83, D81.steps⟩, ⟨Sb, 5, .slice (some ⟨b60, 0, none⟩) 64 64, (List.replicate 64 (0#8 : BitVec 8)).set 0 (2#8)⟩] [Rp SB [.slice (some ⟨b62, 0, none⟩) 64 64] ((List.replicate 64 (0#8 : BitVec 8)).set 0 (1#8))] _ := H
  have hR85 : WriteR (newD x3 y4) (⟨#[97]⟩ : ByteArray) 0 ((List.replicate 64 (0#8 : BitVec 8)).set 0 (1#8)) e84 D81 := hR85
  have hokA := WriteR.ok hokdb2 (by decide) hR85
  obtain ⟨he1, fA, oA, -, -, -, -, sA, arA, deA, -, -⟩ := write_first nm_a (by decide) (by decide) hR85
  have hlA : D81.steps.length ≤ 2 := by rw [sA]; exact Nat.le_refl 2
  subst he1
  refine qF 1 [(1, .P db2 0), (2, .slice (some ⟨b62, 0, none⟩) 64 64), (3, .slice (some ⟨b60, 0, none⟩) 64 64), (4, .I 0)] ?_
  refine qR 1 [.c [6, 0], .c [7]] [(1, .P db2 0), (2, .slice (some ⟨b62, 0, none⟩) 64 64), (3, .slice (some ⟨b60, 0, none⟩) 64 64), (4, .I 0)] ?_
  refine qG (sq 0 3) ?_
  refine qP 1 (sq 1 3) [(1, .P db2 0), (2, .slice (some ⟨b62, 0, none⟩) 64 64), (3, .slice (some ⟨b60, 0, none⟩) 64 64), (4, .I 0), (20, .P db2 0)] ?_
  have H := H.perms (M' := diskM db2 D81 sa82 sk83 ++ []) (W' := [⟨stepS, 67, .slice sa82 D81.steps.length sk83, D81.steps⟩, ⟨Sb, 5, .slice (some ⟨b60, 0, none⟩) 64 64, (List.replicate 64 (0#8 : BitVec 8)).set 0 (2#8)⟩]) (List.perm_append_comm (l₁ := diskM db2 D81 sa82 sk83) (l₂ := ([] : Heap))) (List.Perm.refl _)
  refine RW.callS (d := some 21) (r := (sq 2 3)) (g := 9) (args := #[.P db2 0, .string (⟨#[97]⟩ : ByteArray)]) (by as_aux_lemma => kernel_rfl) (dSync (hokA) (by first | omega | exact Nat.zero_le _) (deA) (fun h => by rw [arA] at h; cases h) ((H.lend (M1 := diskM db2 D81 sa82 sk83) (W1 := [⟨stepS, 67, .slice sa82 D81.steps.length sk83, D81.steps⟩])).pick [] rfl)) ?_
  rintro _ w86 ⟨D87, sa88, sk89, ⟨e90, rfl, hR91⟩, H'⟩
  have H := H.back (M1 := diskM db2 D81 sa82 sk83) (W1 := [⟨stepS, 67, .slice sa82 D81.steps.length sk83, D81.steps⟩]) H'
  have H := H.perms (M' := ((diskM db2 D87 sa88 sk89))) (W' := [⟨stepS, 67, .slice sa88 D87.steps.length sk89, D87.steps⟩, ⟨Sb, 5, .slice (some ⟨b60, 0, none⟩) 64 64, (List.replicate 64 (0#8 : BitVec 8)).set 0 (2#8)⟩]) ((List.perm_append_comm (l₁ := diskM db2 D87 sa88 sk89) (l₂ := ([] : Heap))).symm) (List.Perm.refl _)
  have H : Hp w S [] ((diskM db2 D87 sa88 sk89)) [⟨stepS, 67, .slice sa88 D87.steps.length sk89, D87.steps⟩, ⟨Sb, 5, .slice (some ⟨b60, 0, none⟩) 64 64, (List.replicate 64 (0#8 : BitVec 8)).set 0 (2#8)⟩] [Rp SB [.slice (some ⟨b62, 0, none⟩) 64 64] ((List.replicate 64 (0#8 : BitVec 8)).set 0 (1#8))] _ := H
  have hR91 : SyncR D81 (⟨#[97]⟩ : ByteArray) e90 D87 := hR91
  have hokB := SyncR.ok hokA hR91
  obtain ⟨he2, oB, -, sB, arB, deB⟩ := sync_one oA arA hR91
  have hlB : D87.steps.length ≤ 2 := by rw [sB]; exact Nat.le_trans (List.length_filter_le _ _) hlA
  subst he2
  refine qF 1 [(1, .P db2 0), (2, .slice (some ⟨b62, 0, none⟩) 64 64), (3, .slice (some ⟨b60, 0, none⟩) 64 64), (4, .I 0), (5, .I 0)] ?_
  refine qR 1 [.c [7, 0], .c [8]] [(1, .P db2 0), (2, .slice (some ⟨b62, 0, none⟩) 64 64), (3, .slice (some ⟨b60, 0, none⟩) 64 64), (4, .I 0), (5, .I 0)] ?_
  refine qG (sq 0 3) ?_
  refine qP 2 (sq 2 3) [(1, .P db2 0), (2, .slice (some ⟨b62, 0, none⟩) 64 64), (4, .I 0), (5, .I 0), (22, .P db2 0), (23, .slice (some ⟨b60, 0, none⟩) 64 64)] ?_
  have H : Hp w S [] ((diskM db2 D87 sa88 sk89)) [⟨stepS, 67, .slice sa88 D87.steps.length sk89, D87.steps⟩] [Rp SB [.slice (some ⟨b60, 0, none⟩) 64 64] ((List.replicate 64 (0#8 : BitVec 8)).set 0 (2#8)), Rp SB [.slice (some ⟨b62, 0, none⟩) 64 64] ((List.replicate 64 (0#8 : BitVec 8)).set 0 (1#8))] _ := H.freezeW 1 rfl
  have H := H.perms (M' := diskM db2 D87 sa88 sk89 ++ []) (W' := [⟨stepS, 67, .slice sa88 D87.steps.length sk89, D87.steps⟩]) (List.perm_append_comm (l₁ := diskM db2 D87 sa88 sk89) (l₂ := ([] : Heap))) (List.Perm.refl _)
  refine RW.callS (d := some 24) (r := (sq 3 3)) (g := 8) (args := #[.P db2 0, .string (⟨#[97]⟩ : ByteArray), .I 0, .slice (some ⟨b60, 0, none⟩) 64 64]) (by as_aux_lemma => kernel_rfl) (dWriteN (hokB) (by first | omega | exact Nat.zero_le _) (deB.trans deA) (fun h => by rw [arB] at h; cases h) (by first | assumption | decide | (simp [maxLen]; done)) (by decide) (xs := ((List.replicate 64 (0#8 : BitVec 8)).set 0 (2#8))) (by simp) ((H.lend (M1 := diskM db2 D87 sa88 sk89) (W1 := [⟨stepS, 67, .slice sa88 D87.steps.length sk89, D87.steps⟩])).pick [0] rfl)) ?_
  rintro _ w92 ⟨D93, sa94, sk95, ⟨e96, rfl, hR97⟩, H'⟩
  have H := H.back (M1 := diskM db2 D87 sa88 sk89) (W1 := [⟨stepS, 67, .slice sa88 D87.steps.length sk89, D87.steps⟩]) H'
  have H := H.perms (M' := ((diskM db2 D93 sa94 sk95))) (W' := [⟨stepS, 67, .slice sa94 D93.steps.length sk95, D93.steps⟩]) ((List.perm_append_comm (l₁ := diskM db2 D93 sa94 sk95) (l₂ := ([] : Heap))).symm) (List.Perm.refl _)
  have H : Hp w S [] ((diskM db2 D93 sa94 sk95)) [⟨stepS, 67, .slice sa94 D93.steps.length sk95, D93.steps⟩] [Rp SB [.slice (some ⟨b60, 0, none⟩) 64 64] ((List.replicate 64 (0#8 : BitVec 8)).set 0 (2#8)), Rp SB [.slice (some ⟨b62, 0, none⟩) 64 64] ((List.replicate 64 (0#8 : BitVec 8)).set 0 (1#8))] _ := H
  have hR97 : WriteR D87 (⟨#[97]⟩ : ByteArray) 0 ((List.replicate 64 (0#8 : BitVec 8)).set 0 (2#8)) e96 D93 := hR97
  have hokC := WriteR.ok hokB (by decide) hR97
  obtain ⟨he3, -, -, -, sC, -, -⟩ := write_more oB arB nm_a (by decide) (by decide) hR97
  have hlC : D93.steps.length ≤ 3 := by rw [sC, List.length_append]; simp only [List.length_cons, List.length_nil]; omega
  subst he3
  refine qF 0 [(1, .P db2 0), (2, .slice (some ⟨b62, 0, none⟩) 64 64), (4, .I 0), (5, .I 0)] ?_
  refine qR 1 [.c [8, 0], .c [9]] [(1, .P db2 0), (2, .slice (some ⟨b62, 0, none⟩) 64 64), (4, .I 0), (5, .I 0)] ?_
  refine qG (sq 0 3) ?_
  refine qP 1 (sq 1 3) [(1, .P db2 0), (2, .slice (some ⟨b62, 0, none⟩) 64 64), (4, .I 0), (5, .I 0), (25, .P db2 0)] ?_
  refine RW.new (κ := .seq) (d := some 26) (r := (sq 2 3)) (o := .cells #[.int .u8 0] 5 (0, 0)) (v := fun b => .slice (some ⟨b, 0, none⟩) 1 1) (fun b => by as_aux_lemma => kernel_rfl) (nofun) H ?_
  intro b98 w99 H
  have H := H.freeze 0 rfl Sb ([0#8] : List (BitVec 8)) 1 (by simp [maxLen]) (by first | exact Nat.le_refl _ | simp) (EsP.cons (c := [.int .u8 0]) (Shape.bv_lit (x := 0#8) (by decide)) EsP.nil)
  have H : Hp w S [] ((diskM db2 D93 sa94 sk95)) [⟨stepS, 67, .slice sa94 D93.steps.length sk95, D93.steps⟩] [Rp SB [.slice (some ⟨b98, 0, none⟩) 1 1] ([0#8] : List (BitVec 8)), Rp SB [.slice (some ⟨b60, 0, none⟩) 64 64] ((List.replicate 64 (0#8 : BitVec 8)).set 0 (2#8)), Rp SB [.slice (some ⟨b62, 0, none⟩) 64 64] ((List.replicate 64 (0#8 : BitVec 8)).set 0 (1#8))] _ := H
  have H := H.perms (M' := diskM db2 D93 sa94 sk95 ++ []) (W' := [⟨stepS, 67, .slice sa94 D93.steps.length sk95, D93.steps⟩]) (List.perm_append_comm (l₁ := diskM db2 D93 sa94 sk95) (l₂ := ([] : Heap))) (List.Perm.refl _)
  refine RW.callS (d := some 27) (r := (sq 3 3)) (g := 10) (args := #[.P db2 0, .slice (some ⟨b98, 0, none⟩) 1 1]) (by as_aux_lemma => kernel_rfl) (dCrashN (hokC) (by first | omega | exact Nat.zero_le _) (by decide) (xs := ([0#8] : List (BitVec 8))) (by simp) ((H.lend (M1 := diskM db2 D93 sa94 sk95) (W1 := [⟨stepS, 67, .slice sa94 D93.steps.length sk95, D93.steps⟩])).pick [0] rfl)) ?_
  rintro _ w100 ⟨rfl, ns101, nb102, H'⟩
  have H := H.back (M1 := diskM db2 D93 sa94 sk95) (W1 := [⟨stepS, 67, .slice sa94 D93.steps.length sk95, D93.steps⟩]) H'
  have H := H.perms (M' := ((diskM db2 (crashD D93 ([0#8] : List (BitVec 8)) ns101 nb102) none 0))) (W' := [⟨stepS, 67, .slice none ((crashD D93 ([0#8] : List (BitVec 8)) ns101 nb102).steps.length) 0, (crashD D93 ([0#8] : List (BitVec 8)) ns101 nb102).steps⟩]) ((List.perm_append_comm (l₁ := diskM db2 (crashD D93 ([0#8] : List (BitVec 8)) ns101 nb102) none 0) (l₂ := ([] : Heap))).symm) (List.Perm.refl _)
  have H : Hp w S [] ((diskM db2 (crashD D93 ([0#8] : List (BitVec 8)) ns101 nb102) none 0)) [⟨stepS, 67, .slice none ((crashD D93 ([0#8] : List (BitVec 8)) ns101 nb102).steps.length) 0, (crashD D93 ([0#8] : List (BitVec 8)) ns101 nb102).steps⟩] [Rp SB [.slice (some ⟨b98, 0, none⟩) 1 1] ([0#8] : List (BitVec 8)), Rp SB [.slice (some ⟨b60, 0, none⟩) 64 64] ((List.replicate 64 (0#8 : BitVec 8)).set 0 (2#8)), Rp SB [.slice (some ⟨b62, 0, none⟩) 64 64] ((List.replicate 64 (0#8 : BitVec 8)).set 0 (1#8))] _ := H
  have hokD := hokC.crashD' [0#8] ns101 nb102
  obtain ⟨-, -, -, -, fD, filesD, nowD, sizeD, getD⟩ := heads_law nm_a hR85 hR91 hR97 ns101 nb102
  refine qF 0 [(1, .P db2 0), (2, .slice (some ⟨b62, 0, none⟩) 64 64), (4, .I 0), (5, .I 0)] ?_
  refine qR 1 [.c [9, 0], .c [10]] [(1, .P db2 0), (2, .slice (some ⟨b62, 0, none⟩) 64 64), (4, .I 0), (5, .I 0)] ?_
  refine qG (sq 0 7) ?_
  refine qP 1 (sq 1 7) [(1, .P db2 0), (2, .slice (some ⟨b62, 0, none⟩) 64 64), (4, .I 0), (5, .I 0), (29, .P db2 0)] ?_
  have H := H.perms (M' := diskM db2 (crashD D93 ([0#8] : List (BitVec 8)) ns101 nb102) none 0 ++ []) (W' := [⟨stepS, 67, .slice none ((crashD D93 ([0#8] : List (BitVec 8)) ns101 nb102).steps.length) 0, (crashD D93 ([0#8] : List (BitVec 8)) ns101 nb102).steps⟩]) (List.perm_append_comm (l₁ := diskM db2 (crashD D93 ([0#8] : List (BitVec 8)) ns101 nb102) none 0) (l₂ := ([] : Heap))) (List.Perm.refl _)
  refine RW.callS (d := some 30) (r := (sq 2 7)) (g := 13) (args := #[.P db2 0, .string (⟨#[97]⟩ : ByteArray), .I 0]) (by as_aux_lemma => kernel_rfl) ((dReadHit hokD rfl (f := fD) (by rw [filesD]; exact List.mem_cons_self ..) nowD ⟨Int.le_refl _, by rw [sizeD]; decide⟩) ((H.lend (M1 := diskM db2 (crashD D93 ([0#8] : List (BitVec 8)) ns101 nb102) none 0) (W1 := [⟨stepS, 67, .slice none ((crashD D93 ([0#8] : List (BitVec 8)) ns101 nb102).steps.length) 0, (crashD D93 ([0#8] : List (BitVec 8)) ns101 nb102).steps⟩])).pick [] rfl)) ?_
  rintro _ w103 ⟨a104, c105, rfl, H'⟩
  have H := H.back (M1 := diskM db2 (crashD D93 ([0#8] : List (BitVec 8)) ns101 nb102) none 0) (W1 := [⟨stepS, 67, .slice none ((crashD D93 ([0#8] : List (BitVec 8)) ns101 nb102).steps.length) 0, (crashD D93 ([0#8] : List (BitVec 8)) ns101 nb102).steps⟩]) H'
  have H := H.perms (M' := ((diskM db2 (crashD D93 ([0#8] : List (BitVec 8)) ns101 nb102) none 0))) (W' := [⟨Sb, 5, .slice a104 ((secL ((mfind 0 fD.now).getD zeroSec)).length) c105, (secL ((mfind 0 fD.now).getD zeroSec))⟩, ⟨stepS, 67, .slice none ((crashD D93 ([0#8] : List (BitVec 8)) ns101 nb102).steps.length) 0, (crashD D93 ([0#8] : List (BitVec 8)) ns101 nb102).steps⟩]) ((List.perm_append_comm (l₁ := diskM db2 (crashD D93 ([0#8] : List (BitVec 8)) ns101 nb102) none 0) (l₂ := ([] : Heap))).symm) (List.Perm.refl _)
  have H : Hp w S [] ((diskM db2 (crashD D93 ([0#8] : List (BitVec 8)) ns101 nb102) none 0)) [⟨Sb, 5, .slice a104 ((secL ((mfind 0 fD.now).getD zeroSec)).length) c105, (secL ((mfind 0 fD.now).getD zeroSec))⟩, ⟨stepS, 67, .slice none ((crashD D93 ([0#8] : List (BitVec 8)) ns101 nb102).steps.length) 0, (crashD D93 ([0#8] : List (BitVec 8)) ns101 nb102).steps⟩] [Rp SB [.slice (some ⟨b98, 0, none⟩) 1 1] ([0#8] : List (BitVec 8)), Rp SB [.slice (some ⟨b60, 0, none⟩) 64 64] ((List.replicate 64 (0#8 : BitVec 8)).set 0 (2#8)), Rp SB [.slice (some ⟨b62, 0, none⟩) 64 64] ((List.replicate 64 (0#8 : BitVec 8)).set 0 (1#8))] _ := H
  refine qF 5 [(1, .P db2 0), (2, .slice (some ⟨b62, 0, none⟩) 64 64), (4, .I 0), (5, .I 0), (6, .slice a104 ((secL ((mfind 0 fD.now).getD zeroSec)).length) c105), (7, .I 0)] ?_
  refine qR 1 [.c [10, 0], .c [11]] [(1, .P db2 0), (2, .slice (some ⟨b62, 0, none⟩) 64 64), (4, .I 0), (5, .I 0), (6, .slice a104 ((secL ((mfind 0 fD.now).getD zeroSec)).length) c105), (7, .I 0)] ?_
  refine qG (sq 0 21) ?_
  refine qP 13 (sq 13 21) [(1, .P db2 0), (43, .bool true), (44, .slice a104 ((secL ((mfind 0 fD.now).getD zeroSec)).length) c105), (45, .slice (some ⟨b62, 0, none⟩) 64 64)] ?_
  have H : Hp w S [] ((diskM db2 (crashD D93 ([0#8] : List (BitVec 8)) ns101 nb102) none 0)) [⟨stepS, 67, .slice none ((crashD D93 ([0#8] : List (BitVec 8)) ns101 nb102).steps.length) 0, (crashD D93 ([0#8] : List (BitVec 8)) ns101 nb102).steps⟩] [Rp SB [.slice a104 ((secL ((mfind 0 fD.now).getD zeroSec)).length) c105] (secL ((mfind 0 fD.now).getD zeroSec)), Rp SB [.slice (some ⟨b98, 0, none⟩) 1 1] ([0#8] : List (BitVec 8)), Rp SB [.slice (some ⟨b60, 0, none⟩) 64 64] ((List.replicate 64 (0#8 : BitVec 8)).set 0 (2#8)), Rp SB [.slice (some ⟨b62, 0, none⟩) 64 64] ((List.replicate 64 (0#8 : BitVec 8)).set 0 (1#8))] _ := H.freezeW 0 rfl
  refine qK .seq (some 46) (sq 14 21) 14 #[.slice a104 ((secL ((mfind 0 fD.now).getD zeroSec)).length) c105, .slice (some ⟨b62, 0, none⟩) 64 64] (same01N (S := Av S w [] (idsOf ((diskM db2 (crashD D93 ([0#8] : List (BitVec 8)) ns101 nb102) none 0)) [⟨stepS, 67, .slice none ((crashD D93 ([0#8] : List (BitVec 8)) ns101 nb102).steps.length) 0, (crashD D93 ([0#8] : List (BitVec 8)) ns101 nb102).steps⟩])) (xs := (secL ((mfind 0 fD.now).getD zeroSec))) (ys := (List.replicate 64 (0#8 : BitVec 8)).set 0 (1#8)) (H.rp 0 rfl) (H.rp 3 rfl)) ?_
  rintro _ w106 hE107 rfl
  have H := H.ext hE107
  rw [sameB_eq (by rw [getD]; exact secL_same rfl)]
  refine qP 3 (sq 17 21) [(48, .bool true), (49, .P db2 0)] ?_
  have H := H.add (F := Rp SB [.slice none 0 0] ([] : List (BitVec 8))) Shape.slice_nil
  have H := H.perms (M' := diskM db2 (crashD D93 ([0#8] : List (BitVec 8)) ns101 nb102) none 0 ++ []) (W' := [⟨stepS, 67, .slice none ((crashD D93 ([0#8] : List (BitVec 8)) ns101 nb102).steps.length) 0, (crashD D93 ([0#8] : List (BitVec 8)) ns101 nb102).steps⟩]) (List.perm_append_comm (l₁ := diskM db2 (crashD D93 ([0#8] : List (BitVec 8)) ns101 nb102) none 0) (l₂ := ([] : Heap))) (List.Perm.refl _)
  refine RW.callS (d := some 50) (r := (sq 18 21)) (g := 8) (args := #[.P db2 0, .string (⟨#[97]⟩ : ByteArray), .I 0, .slice none 0 0]) (by as_aux_lemma => kernel_rfl) (dWriteN (hokD) (by first | omega | exact Nat.zero_le _) (rfl) (fun h => by cases h) (by first | assumption | decide | (simp [maxLen]; done)) (by decide) (xs := ([] : List (BitVec 8))) (by simp) ((H.lend (M1 := diskM db2 (crashD D93 ([0#8] : List (BitVec 8)) ns101 nb102) none 0) (W1 := [⟨stepS, 67, .slice none ((crashD D93 ([0#8] : List (BitVec 8)) ns101 nb102).steps.length) 0, (crashD D93 ([0#8] : List (BitVec 8)) ns101 nb102).steps⟩])).pick [0] rfl)) ?_
  rintro _ w108 ⟨D109, sa110, sk111, ⟨e112, rfl, hR113⟩, H'⟩
  have H := H.back (M1 := diskM db2 (crashD D93 ([0#8] : List (BitVec 8)) ns101 nb102) none 0) (W1 := [⟨stepS, 67, .slice none ((crashD D93 ([0#8] : List (BitVec 8)) ns101 nb102).steps.length) 0, (crashD D93 ([0#8] : List (BitVec 8)) ns101 nb102).steps⟩]) H'
  have H := H.perms (M' := ((diskM db2 D109 sa110 sk111))) (W' := [⟨stepS, 67, .slice sa110 D109.steps.length sk111, D109.steps⟩]) ((List.perm_append_comm (l₁ := diskM db2 D109 sa110 sk111) (l₂ := ([] : Heap))).symm) (List.Perm.refl _)
  have H : Hp w S [] ((diskM db2 D109 sa110 sk111)) [⟨stepS, 67, .slice sa110 D109.steps.length sk111, D109.steps⟩] [Rp SB [.slice none 0 0] ([] : List (BitVec 8)), Rp SB [.slice a104 ((secL ((mfind 0 fD.now).getD zeroSec)).length) c105] (secL ((mfind 0 fD.now).getD zeroSec)), Rp SB [.slice (some ⟨b98, 0, none⟩) 1 1] ([0#8] : List (BitVec 8)), Rp SB [.slice (some ⟨b60, 0, none⟩) 64 64] ((List.replicate 64 (0#8 : BitVec 8)).set 0 (2#8)), Rp SB [.slice (some ⟨b62, 0, none⟩) 64 64] ((List.replicate 64 (0#8 : BitVec 8)).set 0 (1#8))] _ := H
  have hR113 : WriteR (crashD D93 ([0#8] : List (BitVec 8)) ns101 nb102) (⟨#[97]⟩ : ByteArray) 0 ([] : List (BitVec 8)) e112 D109 := hR113
  obtain he5 : e112 = 2 := by
   rcases hR113 with ⟨h1, h2, -⟩ | ⟨-, h1, -⟩ | ⟨-, h1, -⟩ | ⟨-, h1, -⟩
   · exact h1.trans (if_pos (by simp))
   all_goals exact absurd h1 (by unfold wArg; rw [if_pos (by simp)]; decide)
  subst he5
  refine qF 3 [(0, .bool true)] ?_
  refine qT (.bool true) Try.func12 ?_
  exact ⟨_, rfl, H.done, rfl⟩


end Go.Proofs.Ytekgjnblidjloaa
