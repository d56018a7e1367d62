import Derived.Test.YtppcdmbkgficiaaG5
import Derived.Test.YtppcdmbkgficiaaBxHeld
namespace Go.Proofs.Ytppcdmbkgficiaa
open Go.BX

theorem take_succ_mem {xs : List Int} {k : Nat} (hk : k < xs.length) {x : Int} : x ∈ xs.take (k + 1) ↔ x ∈ xs.take k ∨ x = xs[k] := by
 rw [List.take_succ_eq_append_getElem hk, List.mem_append, List.mem_singleton]

theorem index_spec {S : Nat → Prop} {w : World} {xs : List Int} {a : Option Addr} {c : Nat} (x : Int) (h : (Shape.slice (.int .i64)).rep S w [.slice a xs.length c] xs) :
 Calls Try.prog 91 #[.slice a xs.length c, .I x] w (Ret fun v w' => Ext w w' ∧ ∃ i : Int, v = .I i ∧ (0 ≤ i ↔ x ∈ xs)) := by
 have hlen := Shape.slice_len h
 refine qS (fn := Try.f91) (n := 19) (σ := [(0, .slice a xs.length c), (1, .I x)]) Try.func91 ?_
 have H := Hp.startF (w := w) (S := S) (G := [Rp (Shape.slice (Shape.int .i64)) [.slice a xs.length c] xs]) (.rp h .nil)
 refine qR 6 [.c [1, 0, 1, 0], .b 0, .c [2]] [(0, .slice a xs.length c), (1, .I x), (7, .I ((xs.length : Nat) : Int)), (8, .I 0)] ?_
 refine WK.loop (α := Nat) (b := cd Try.prog 91 [1, 0, 1, 0, 0]) (by as_aux_lemma => kernel_rfl) (fun k => [(0, .slice a xs.length c), (1, .I x), (7, .I ((xs.length : Nat) : Int)), (8, .I k)]) (fun k w' => Hp w S [] [] [] [Rp (Shape.slice (Shape.int .i64)) [.slice a xs.length c] xs] w' ∧ k ≤ xs.length ∧ x ∉ xs.take k) (fun k => xs.length - k) 0 ⟨H, by simp⟩ (rfl) ?_
 rintro k w2 ⟨H, hinv0⟩ hback1
 refine qR 3 [.c [1, 0, 1, 0, 0, 1, 0], .c [1, 0, 1, 0, 0, 2], .l [1, 0, 1, 0, 0], .b 0, .c [2]] [(0, .slice a xs.length c), (1, .I x), (7, .I ((xs.length : Nat) : Int)), (8, .I k), (9, .bool (decide (((k : Int) : Int) < ((xs.length : Nat) : Int))))] ?_
 refine qD (((k : Int) : Int) < ((xs.length : Nat) : Int)) (fun h3 => ?_) (fun h3 => ?_)
 ·
  refine qR 6 [.c [1, 0, 1, 0, 0, 2, 0, 0, 1, 0], .c [1, 0, 1, 0, 0, 2, 0, 0, 2], .b 1, .c [1, 0, 1, 0, 0, 3], .l [1, 0, 1, 0, 0], .b 0, .c [2]] [(0, .slice a xs.length c), (1, .I x), (5, .I k), (7, .I ((xs.length : Nat) : Int)), (8, .I k)] ?_
  refine qG (sq 0 6) ?_
  refine qP 3 (sq 3 6) [(0, .slice a xs.length c), (1, .I x), (5, .I k), (7, .I ((xs.length : Nat) : Int)), (8, .I k), (11, .I x), (12, .slice a xs.length c), (13, .I k)] ?_
  have hx4 : k < xs.length := by omega
  refine qX .seq 14 (sq 4 6) 25 3 (k : Int) (Shape.int .i64) (xs[k]) H 0 rfl k (by omega) (List.getElem?_eq_getElem hx4) ?_
  intro b5 o6 es7 hr8 H
  have hb9 := Shape.i64_bd hr8
  obtain ⟨rfl, -⟩ := hr8
  refine qL .seq 15 (sq 5 6) 3 b5 o6 0 (.I (xs[k])) (H.fc 0 rfl) ?_
  refine qF 1 [(0, .slice a xs.length c), (1, .I x), (5, .I k), (7, .I ((xs.length : Nat) : Int)), (8, .I k), (16, .bool (x == (xs[k])))] ?_
  refine qE x (xs[k]) (fun h10 => ?_) (fun h10 => ?_)
  ·
   refine qR 2 [.c [1, 0, 1, 0, 0, 2, 0, 0, 2, 0, 1], .b 1, .c [1, 0, 1, 0, 0, 3], .l [1, 0, 1, 0, 0], .b 0, .c [2]] [(4, .I k)] ?_
   refine qT (.I k) Try.func91 ?_
   exact ⟨_, rfl, H.done, _, rfl, fun _ => by subst_vars; exact List.getElem_mem _, fun _ => by omega⟩
  ·
   refine qR 2 [.c [1, 0, 1, 0, 0, 3], .l [1, 0, 1, 0, 0], .b 0, .c [2]] [(0, .slice a xs.length c), (1, .I x), (7, .I ((xs.length : Nat) : Int)), (8, .I k)] ?_
   refine qG (sq 0 2) ?_
   refine qI .seq 18 (sq 1 2) ((k : Int) + 1) ?_
   refine qF 1 [(0, .slice a xs.length c), (1, .I x), (7, .I ((xs.length : Nat) : Int)), (8, .I ((k : Int) + 1))] ?_
   have H := H.pick [1] (G' := [Rp (Shape.slice (Shape.int .i64)) [.slice a xs.length c] xs]) rfl
   exact WK.back (hback1 (k + 1) _ ⟨H, by omega, fun hm => by rcases (take_succ_mem (by omega)).1 hm with hm | hm; exact hinv0.2 hm; exact absurd hm (by assumption)⟩ (by first | omega | (simp only []; omega))) (by as_aux_lemma => kernel_rfl)
 ·
  refine qR 3 [.c [3]] [(4, .I (-1))] ?_
  refine qT (.I (-1)) Try.func91 ?_
  exact ⟨_, rfl, H.done, _, rfl, fun h => absurd h (by omega), fun h => absurd (by rw [List.take_of_length_le (by omega)]; exact h) hinv0.2⟩

theorem contains_spec {S : Nat → Prop} {w : World} {xs : List Int} {a : Option Addr} {c : Nat} (x : Int) (h : (Shape.slice (.int .i64)).rep S w [.slice a xs.length c] xs) :
 Calls Try.prog 61 #[.slice a xs.length c, .I x] w (Ret fun v w' => Ext w w' ∧ v = .bool (decide (x ∈ xs))) := by
 refine qS (fn := Try.f61) (n := 9) (σ := [(0, .slice a xs.length c), (1, .I x)]) Try.func61 ?_
 have H := Hp.startF (w := w) (S := S) (G := [Rp (Shape.slice (Shape.int .i64)) [.slice a xs.length c] xs]) (.rp h .nil)
 refine qR 3 [.c [1, 0], .c [2]] [(0, .slice a xs.length c), (1, .I x)] ?_
 refine qG (sq 0 5) ?_
 refine qP 2 (sq 2 5) [(5, .slice a xs.length c), (6, .I x)] ?_
 refine qK .seq (some 7) (sq 3 5) 91 #[.slice a xs.length c, .I x] (index_spec x (H.rp 0 rfl)) ?_
 rintro _ w1 hE ⟨ix, rfl, hix⟩
 have H := H.ext hE
 refine qF 2 [(4, .bool (decide ((ix : Int) ≥ 0)))] ?_
 refine qT (.bool (decide ((ix : Int) ≥ 0))) Try.func61 ?_
 refine ⟨_, rfl, H.done, ?_⟩
 congr 1
 exact decide_eq_decide.2 hix

theorem clone_nil {S : Nat → Prop} {w : World} {xs : List Int} {c : Nat} (h : (Shape.slice (Shape.int .i64)).rep S w [.slice none xs.length c] xs) (hby : xs.length * 8 ≤ 140737488355328) :
 Calls Try.prog 56 #[.slice none xs.length c] w (Ret fun v w' => Ext w w' ∧ Hp w S [] [] [⟨Shape.int .i64, 3, v, xs⟩] [] w') := by
 have hx := Shape.slice_none h
 refine qS (fn := Try.f56) (n := 8) (σ := [(0, .slice none xs.length c)]) Try.func56 ?_
 have H := Hp.startF (w := w) (S := S) (G := [Rp (Shape.slice (Shape.int .i64)) [.slice none xs.length c] xs]) (.rp h .nil)
 refine qR 8 [.c [1, 0, 1, 0, 1], .c [2]] [(2, .slice none 0 0)] ?_
 refine qT (.slice none 0 0) Try.func56 ?_
 subst hx
 exact ⟨_, rfl, H.done, (H.pick [] rfl).ownNil (Shape.int .i64) 3⟩

theorem clone_some {S : Nat → Prop} {w : World} {xs : List Int} {a : Addr} {c : Nat} (h : (Shape.slice (Shape.int .i64)).rep S w [.slice (some a) xs.length c] xs) (hby : xs.length * 8 ≤ 140737488355328) :
 Calls Try.prog 56 #[.slice (some a) xs.length c] w (Ret fun v w' => Ext w w' ∧ Hp w S [] [] [⟨Shape.int .i64, 3, v, xs⟩] [] w') := by
 refine qS (fn := Try.f56) (n := 8) (σ := [(0, .slice (some a) xs.length c)]) Try.func56 ?_
 have H := Hp.startF (w := w) (S := S) (G := [Rp (Shape.slice (Shape.int .i64)) [.slice (some a) xs.length c] xs]) (.rp h .nil)
 refine qR 8 [.c [2, 0], .c [3]] [(0, .slice (some a) xs.length c)] ?_
 refine qG (sq 0 4) ?_
 refine RW.new (κ := .seq) (d := some 5) (r := (sq 1 4)) (o := .cells #[] 3 (0, 0)) (v := fun b => .slice (some ⟨b, 0, none⟩) 0 0) (fun b => by as_aux_lemma => kernel_rfl) (nofun) H ?_
 intro b1 w2 H
 refine qP 1 (sq 2 4) [(5, .slice (some ⟨b1, 0, none⟩) 0 0), (6, .slice (some a) xs.length c)] ?_
 have H := H.toOwn (sh := Shape.int .i64) (xs := []) (cap := 0) (by rfl) (Nat.le_refl _) (Nat.zero_le _) (by simp) EsP.nil
 have H : Hp w S [] [] [⟨Shape.int .i64, 3, .slice (some ⟨b1, 0, none⟩) 0 0, []⟩] [Rp (Shape.slice (Shape.int .i64)) [.slice (some a) xs.length c] xs] _ := H
 refine RW.appendW (d := some 7) (r := (sq 3 4)) (T := 25) (ty := 25) (e := 3) (m := 1) (by_ := 8) (v := .slice (some ⟨b1, 0, none⟩) 0 0) (a2 := (some a)) (l2 := xs.length) (c2 := c) (zs := xs) (by as_aux_lemma => kernel_rfl) (by as_aux_lemma => kernel_rfl) rfl H 0 rfl 0 rfl (rfl) (by omega) ?_
 intro a3 c4 w6 H hc5
 have H : Hp w S [] [] [⟨Shape.int .i64, 3, .slice a3 xs.length c4, xs⟩] [Rp (Shape.slice (Shape.int .i64)) [.slice (some a) xs.length c] xs] _ := H
 refine qF 1 [(2, .slice a3 xs.length c4)] ?_
 refine qT (.slice a3 xs.length c4) Try.func56 ?_
 exact ⟨_, rfl, H.done, H.pick [] rfl⟩

theorem clone_spec {S : Nat → Prop} {w : World} {xs : List Int} {a : Option Addr} {c : Nat} (h : (Shape.slice (Shape.int .i64)).rep S w [.slice a xs.length c] xs) (hby : xs.length * 8 ≤ 140737488355328) :
 Calls Try.prog 56 #[.slice a xs.length c] w (Ret fun v w' => Ext w w' ∧ Hp w S [] [] [⟨Shape.int .i64, 3, v, xs⟩] [] w') := by
 cases a with
 | none => exact clone_nil h hby
 | some a => exact clone_some h hby

theorem bclone_nil {S : Nat → Prop} {w : World} {xs : List (BitVec 8)} {c : Nat} (h : SB.rep S w [.slice none xs.length c] xs) (hby : xs.length * 1 ≤ 140737488355328) :
 Calls Try.prog 83 #[.slice none xs.length c] w (Ret fun v w' => Ext w w' ∧ Hp w S [] [] [⟨Sb, 5, v, xs⟩] [] w') := by
 have hx := Shape.slice_none h
 refine qS (fn := Try.f83) (n := 8) (σ := [(0, .slice none xs.length c)]) Try.func83 ?_
 have H := Hp.startF (w := w) (S := S) (G := [Rp SB [.slice none xs.length c] xs]) (.rp h .nil)
 refine qR 8 [.c [1, 0, 1, 0, 1], .c [2]] [(2, .slice none 0 0)] ?_
 refine qT (.slice none 0 0) Try.func83 ?_
 subst hx
 exact ⟨_, rfl, H.done, (H.pick [] rfl).ownNil Sb 5⟩

theorem bclone_some {S : Nat → Prop} {w : World} {xs : List (BitVec 8)} {a : Addr} {c : Nat} (h : SB.rep S w [.slice (some a) xs.length c] xs) (hby : xs.length * 1 ≤ 140737488355328) :
 Calls Try.prog 83 #[.slice (some a) xs.length c] w (Ret fun v w' => Ext w w' ∧ Hp w S [] [] [⟨Sb, 5, v, xs⟩] [] w') := by
 refine qS (fn := Try.f83) (n := 8) (σ := [(0, .slice (some a) xs.length c)]) Try.func83 ?_
 have H := Hp.startF (w := w) (S := S) (G := [Rp SB [.slice (some a) xs.length c] xs]) (.rp h .nil)
 refine qR 8 [.c [2, 0], .c [3]] [(0, .slice (some a) xs.length c)] ?_
 refine qG (sq 0 4) ?_
 refine RW.new (κ := .seq) (d := some 5) (r := (sq 1 4)) (o := .cells #[] 5 (0, 0)) (v := fun b => .slice (some ⟨b, 0, none⟩) 0 0) (fun b => by as_aux_lemma => kernel_rfl) (nofun) H ?_
 intro b1 w2 H
 refine qP 1 (sq 2 4) [(5, .slice (some ⟨b1, 0, none⟩) 0 0), (6, .slice (some a) xs.length c)] ?_
 have H := H.toOwn (sh := Sb) (xs := []) (cap := 0) (by rfl) (Nat.le_refl _) (Nat.zero_le _) (by simp) EsP.nil
 have H : Hp w S [] [] [⟨Sb, 5, .slice (some ⟨b1, 0, none⟩) 0 0, []⟩] [Rp SB [.slice (some a) xs.length c] xs] _ := H
 refine RW.appendW (d := some 7) (r := (sq 3 4)) (T := 23) (ty := 23) (e := 5) (m := 1) (by_ := 1) (v := .slice (some ⟨b1, 0, none⟩) 0 0) (a2 := (some a)) (l2 := xs.length) (c2 := c) (zs := xs) (by as_aux_lemma => kernel_rfl) (by as_aux_lemma => kernel_rfl) rfl H 0 rfl 0 rfl (rfl) (by omega) ?_
 intro a3 c4 w6 H hc5
 have H : Hp w S [] [] [⟨Sb, 5, .slice a3 xs.length c4, xs⟩] [Rp SB [.slice (some a) xs.length c] xs] _ := H
 refine qF 1 [(2, .slice a3 xs.length c4)] ?_
 refine qT (.slice a3 xs.length c4) Try.func83 ?_
 exact ⟨_, rfl, H.done, H.pick [] rfl⟩

theorem bclone_spec {S : Nat → Prop} {w : World} {xs : List (BitVec 8)} {a : Option Addr} {c : Nat} (h : SB.rep S w [.slice a xs.length c] xs) (hby : xs.length * 1 ≤ 140737488355328) :
 Calls Try.prog 83 #[.slice a xs.length c] w (Ret fun v w' => Ext w w' ∧ Hp w S [] [] [⟨Sb, 5, v, xs⟩] [] w') := by
 cases a with
 | none => exact bclone_nil h hby
 | some a => exact bclone_some h hby


end Go.Proofs.Ytppcdmbkgficiaa
