import Derived.Test.YtekgjnblidjloaaC1
import Derived.Test.YtekgjnblidjloaaBxJoin
namespace Go.Proofs.Ytekgjnblidjloaa
open Go.BX

set_option maxHeartbeats 800000 in
theorem sectors_spec {S : Nat → Prop} {w : World} {ws : List (List (BitVec 8))} {as_ : List Int} {ks : List (BitVec 8)} {wa_ aa ka : Option Addr} {wc ac kc : Nat} (sy : Int) (h1 : (Shape.slice SB).rep S w [.slice wa_ ws.length wc] ws) (h2 : (Shape.slice (Shape.int .i64)).rep S w [.slice aa as_.length ac] as_) (h3 : SB.rep S w [.slice ka ks.length kc] ks) :
 Calls Try.prog 3 #[.slice wa_ ws.length wc, .slice aa as_.length ac, .I sy, .slice ka ks.length kc] w (Ret fun v w' => Ext w w' ∧ v = .bool true) := by
 have hwl := Shape.slice_len h1
 have hal := Shape.slice_len h2
 have hkl := Shape.slice_len h3
 obtain ⟨nn, hnn⟩ : ∃ z : Nat, z = min (min ws.length as_.length) 100 := ⟨_, rfl⟩
 refine qS (fn := Try.f3) (n := 204) (σ := [(0, .slice wa_ ws.length wc), (1, .slice aa as_.length ac), (2, .I sy), (3, .slice ka ks.length kc)]) Try.func3 ?_
 have H := Hp.startF (w := w) (S := S) (G := [Rp (Shape.slice SB) [.slice wa_ ws.length wc] ws, Rp (Shape.slice (Shape.int .i64)) [.slice aa as_.length ac] as_, Rp SB [.slice ka ks.length kc] ks]) (.rp h1 (.rp h2 (.rp h3 .nil)))
 refine qR 3 [.c [1, 0], .c [2]] [(0, .slice wa_ ws.length wc), (1, .slice aa as_.length ac), (2, .I sy), (3, .slice ka ks.length kc)] ?_
 refine qG (sq 0 2) ?_
 refine qK .seq (some 25) (sq 1 2) 7 #[] (new_spec (S := Av S w [] (idsOf [] []))) ?_
 rintro _ w1 - ⟨db2, x3, y4, rfl, H'⟩
 have H := H.back (M1 := []) (W1 := []) H'
 have H := H.perms (M' := ((diskM db2 (newD x3 y4) none 0))) (W' := [⟨stepS, 67, .slice none ((newD x3 y4).steps.length) 0, (newD x3 y4).steps⟩]) ((List.perm_append_comm (l₁ := diskM db2 (newD x3 y4) none 0) (l₂ := ([] : Heap))).symm) (List.Perm.refl _)
 have H : Hp w S [] ((diskM db2 (newD x3 y4) none 0)) [⟨stepS, 67, .slice none ((newD x3 y4).steps.length) 0, (newD x3 y4).steps⟩] [Rp (Shape.slice SB) [.slice wa_ ws.length wc] ws, Rp (Shape.slice (Shape.int .i64)) [.slice aa as_.length ac] as_, Rp SB [.slice ka ks.length kc] ks] _ := H
 have hokdb2 : DOk (newD x3 y4) := newD_ok x3 y4
 refine qF 1 [(0, .slice wa_ ws.length wc), (1, .slice aa as_.length ac), (2, .I sy), (3, .slice ka ks.length kc), (9, .P db2 0)] ?_
 refine qR 6 [.c [3, 0], .c [4]] [(0, .slice wa_ ws.length wc), (1, .slice aa as_.length ac), (2, .I sy), (3, .slice ka ks.length kc), (9, .P db2 0)] ?_
 refine qG (sq 0 6) ?_
 refine qP 4 (sq 4 6) [(0, .slice wa_ ws.length wc), (1, .slice aa as_.length ac), (2, .I sy), (3, .slice ka ks.length kc), (9, .P db2 0), (29, .I ((ws.length : Nat) : Int)), (31, .I ((as_.length : Nat) : Int))] ?_
 refine RW.pv (κ := .seq) (d := some 32) (r := (sq 5 6)) (v' := .I ((nn : Nat) : Int)) (v := .I (if 100 < (if ((as_.length : Nat) : Int) < ((ws.length : Nat) : Int) then ((as_.length : Nat) : Int) else ((ws.length : Nat) : Int)) then 100 else (if ((as_.length : Nat) : Int) < ((ws.length : Nat) : Int) then ((as_.length : Nat) : Int) else ((ws.length : Nat) : Int)))) (by as_aux_lemma => kernel_rfl) (by congr 1; rw [hnn]; (repeat' split) <;> omega) ?_
 refine qF 1 [(0, .slice wa_ ws.length wc), (1, .slice aa as_.length ac), (2, .I sy), (3, .slice ka ks.length kc), (9, .P db2 0), (10, .I ((nn : Nat) : Int))] ?_
 refine qR 4 [.c [4, 0, 1, 0], .b 0, .c [5]] [(0, .slice wa_ ws.length wc), (1, .slice aa as_.length ac), (2, .I sy), (3, .slice ka ks.length kc), (9, .P db2 0), (10, .I ((nn : Nat) : Int)), (11, .I 0)] ?_
 refine WK.loop (α := Nat × DiskD × Option Addr × Nat × (Option Nat)) (b := cd Try.prog 3 [4, 0, 1, 0, 0]) (by as_aux_lemma => kernel_rfl) (fun st_ => match st_ with | (i, D, sa, sk, m) => [(0, .slice wa_ ws.length wc), (1, .slice aa as_.length ac), (2, .I sy), (3, .slice ka ks.length kc), (9, .P db2 0), (10, .I ((nn : Nat) : Int)), (11, .I i)]) (fun st_ w' => match st_ with | (i, D, sa, sk, m) => Hp w S [] ((diskM db2 D sa sk)) [⟨stepS, 67, .slice sa D.steps.length sk, D.steps⟩] [Rp (Shape.slice SB) [.slice wa_ ws.length wc] ws, Rp (Shape.slice (Shape.int .i64)) [.slice aa as_.length ac] as_, Rp SB [.slice ka ks.length kc] ks] w' ∧ i ≤ nn ∧ SG x3 y4 (⟨#[102]⟩ : ByteArray) (wf ws as_) i m D ∧ (m = none → ¬ (0 ≤ sy ∧ sy < (i : Int))) ∧ ∀ s : Nat, m = some s → sy = (s : Int) ∧ s < i) (fun st_ => match st_ with | (i, D, sa, sk, m) => nn - i) (0, (newD x3 y4), none, 0, none) ⟨H, Nat.zero_le _, .inl ⟨rfl, rfl, rfl⟩, fun _ => by omega, fun s hh => by cases hh⟩ (rfl) ?_
 rintro ⟨i, D, sa, sk, m⟩ w6 ⟨H, ⟨hi, hSG, hmn, hms⟩⟩ hback5
 refine qR 3 [.c [4, 0, 1, 0, 0, 0, 1], .c [4, 0, 1, 0, 0, 1], .l [4, 0, 1, 0, 0], .b 0, .c [5]] [(0, .slice wa_ ws.length wc), (1, .slice aa as_.length ac), (2, .I sy), (3, .slice ka ks.length kc), (9, .P db2 0), (10, .I ((nn : Nat) : Int)), (11, .I i), (35, .bool (decide (((i : Int) : Int) < ((nn : Nat) : Int))))] ?_
 refine qD (((i : Int) : Int) < ((nn : Nat) : Int)) (fun h7 => ?_) (fun h7 => ?_)
 ·
  have hiw : i < ws.length := by omega
  have hia : i < as_.length := by omega
  refine qR 4 [.c [4, 0, 1, 0, 0, 1, 0, 0, 0], .c [4, 0, 1, 0, 0, 1, 0, 0, 1], .b 1, .c [4, 0, 1, 0, 0, 2], .l [4, 0, 1, 0, 0], .b 0, .c [5]] [(0, .slice wa_ ws.length wc), (1, .slice aa as_.length ac), (2, .I sy), (3, .slice ka ks.length kc), (9, .P db2 0), (10, .I ((nn : Nat) : Int)), (11, .I i)] ?_
  refine qG (sq 0 2) ?_
  refine RW.makeW Sb (κ := .seq) (d := some 38) (r := (sq 1 2)) (T := 24) (e := 5) (by_ := 1) (v0 := .int .u8 0) (0#8 : BitVec 8) (kl := .i64) (kc := .i64) (lv := 64) (cv := 64) (by as_aux_lemma => kernel_rfl) (nofun) (by as_aux_lemma => kernel_rfl) rfl H 64 64 (by omega) (by omega) (by omega) (by omega) (by omega) (fun _ _ => rfl) ?_
  intro b8 w9 H
  have H : Hp w S [] ((diskM db2 D sa sk)) [⟨Sb, 5, .slice (some ⟨b8, 0, none⟩) 64 64, (List.replicate 64 (0#8 : BitVec 8))⟩, ⟨stepS, 67, .slice sa D.steps.length sk, D.steps⟩] [Rp (Shape.slice SB) [.slice wa_ ws.length wc] ws, Rp (Shape.slice (Shape.int .i64)) [.slice aa as_.length ac] as_, Rp SB [.slice ka ks.length kc] ks] _ := H
  refine qF 1 [(0, .slice wa_ ws.length wc), (1, .slice aa as_.length ac), (2, .I sy), (3, .slice ka ks.length kc), (9, .P db2 0), (10, .I ((nn : Nat) : Int)), (11, .I i), (12, .slice (some ⟨b8, 0, none⟩) 64 64)] ?_
  refine qR 4 [.c [4, 0, 1, 0, 0, 1, 0, 0, 1, 0, 1, 0], .b 2, .c [4, 0, 1, 0, 0, 1, 0, 0, 2], .b 1, .c [4, 0, 1, 0, 0, 2], .l [4, 0, 1, 0, 0], .b 0, .c [5]] [(0, .slice wa_ ws.length wc), (1, .slice aa as_.length ac), (2, .I sy), (3, .slice ka ks.length kc), (9, .P db2 0), (10, .I ((nn : Nat) : Int)), (11, .I i), (12, .slice (some ⟨b8, 0, none⟩) 64 64), (13, .I 0)] ?_
  rw [padTo_zero ws[i]] at H
  have H : Hp w S [] ((diskM db2 D sa sk)) [⟨Sb, 5, .slice (some ⟨b8, 0, none⟩) 64 64, (padTo ws[i] 0)⟩, ⟨stepS, 67, .slice sa D.steps.length sk, D.steps⟩] [Rp (Shape.slice SB) [.slice wa_ ws.length wc] ws, Rp (Shape.slice (Shape.int .i64)) [.slice aa as_.length ac] as_, Rp SB [.slice ka ks.length kc] ks] _ := H
  refine WK.loop (α := Nat) (b := cd Try.prog 3 [4, 0, 1, 0, 0, 1, 0, 0, 1, 0, 1, 0, 0]) (by as_aux_lemma => kernel_rfl) (fun k => [(0, .slice wa_ ws.length wc), (1, .slice aa as_.length ac), (2, .I sy), (3, .slice ka ks.length kc), (9, .P db2 0), (10, .I ((nn : Nat) : Int)), (11, .I i), (12, .slice (some ⟨b8, 0, none⟩) 64 64), (13, .I k)]) (fun k w' => Hp w S [] ((diskM db2 D sa sk)) [⟨Sb, 5, .slice (some ⟨b8, 0, none⟩) 64 64, (padTo ws[i] k)⟩, ⟨stepS, 67, .slice sa D.steps.length sk, D.steps⟩] [Rp (Shape.slice SB) [.slice wa_ ws.length wc] ws, Rp (Shape.slice (Shape.int .i64)) [.slice aa as_.length ac] as_, Rp SB [.slice ka ks.length kc] ks] w' ∧ k ≤ 64) (fun k => 64 - k) 0 ⟨H, by omega⟩ (rfl) ?_
  rintro k w11 ⟨H, hk⟩ hback10
  refine qR 2 [.c [4, 0, 1, 0, 0, 1, 0, 0, 1, 0, 1, 0, 0, 0, 0], .c [4, 0, 1, 0, 0, 1, 0, 0, 1, 0, 1, 0, 0, 0, 1], .c [4, 0, 1, 0, 0, 1, 0, 0, 1, 0, 1, 0, 0, 1], .l [4, 0, 1, 0, 0, 1, 0, 0, 1, 0, 1, 0, 0], .b 2, .c [4, 0, 1, 0, 0, 1, 0, 0, 2], .b 1, .c [4, 0, 1, 0, 0, 2], .l [4, 0, 1, 0, 0], .b 0, .c [5]] [(0, .slice wa_ ws.length wc), (1, .slice aa as_.length ac), (2, .I sy), (3, .slice ka ks.length kc), (9, .P db2 0), (10, .I ((nn : Nat) : Int)), (11, .I i), (12, .slice (some ⟨b8, 0, none⟩) 64 64), (13, .I k)] ?_
  refine WK.join (fun b_ : Bool => b_ = decide ((k : Int) < 64 ∧ (k : Int) < ((ws[i].length : Nat) : Int))) (fun b_ => [(0, .slice wa_ ws.length wc), (1, .slice aa as_.length ac), (2, .I sy), (3, .slice ka ks.length kc), (9, .P db2 0), (10, .I ((nn : Nat) : Int)), (11, .I i), (12, .slice (some ⟨b8, 0, none⟩) 64 64), (13, .I k), (49, .bool b_)]) [Cq Try.prog 3 [4, 0, 1, 0, 0, 1, 0, 0, 1, 0, 1, 0, 0, 0, 1], Cq Try.prog 3 [4, 0, 1, 0, 0, 1, 0, 0, 1, 0, 1, 0, 0, 1], Lq Try.prog 3 [4, 0, 1, 0, 0, 1, 0, 0, 1, 0, 1, 0, 0], .inBlock 2, Cq Try.prog 3 [4, 0, 1, 0, 0, 1, 0, 0, 2], .inBlock 1, Cq Try.prog 3 [4, 0, 1, 0, 0, 2], Lq Try.prog 3 [4, 0, 1, 0, 0], .inBlock 0, Cq Try.prog 3 [5]] (fun hJ12 => ?_) (fun bj13 hbj14 => ?_)
  ·
   refine qG (sq 0 11) ?_
   refine qP 3 (sq 3 11) [(0, .slice wa_ ws.length wc), (1, .slice aa as_.length ac), (2, .I sy), (3, .slice ka ks.length kc), (9, .P db2 0), (10, .I ((nn : Nat) : Int)), (11, .I i), (12, .slice (some ⟨b8, 0, none⟩) 64 64), (13, .I k), (41, .bool (decide (((k : Int) : Int) < 64)))] ?_
   refine tD (fun b_ => [(0, .slice wa_ ws.length wc), (1, .slice aa as_.length ac), (2, .I sy), (3, .slice ka ks.length kc), (9, .P db2 0), (10, .I ((nn : Nat) : Int)), (11, .I i), (12, .slice (some ⟨b8, 0, none⟩) 64 64), (13, .I k), (41, .bool b_)]) (((k : Int) : Int) < 64) (fun h15 => ?_) (fun h15 => ?_)
   ·
    refine qP 3 (sq 6 11) [(0, .slice wa_ ws.length wc), (1, .slice aa as_.length ac), (2, .I sy), (3, .slice ka ks.length kc), (9, .P db2 0), (10, .I ((nn : Nat) : Int)), (11, .I i), (12, .slice (some ⟨b8, 0, none⟩) 64 64), (13, .I k), (41, .bool true), (42, .I k), (43, .slice wa_ ws.length wc), (44, .I i)] ?_
    have hx16 : i < ws.length := by omega
    refine qX .seq 45 (sq 7 11) 22 24 (i : Int) SB (ws[i]) H 0 rfl i (by omega) (List.getElem?_eq_getElem hx16) ?_
    intro b17 o18 es19 hr20 H
    obtain ⟨a21, k22, rfl⟩ := Shape.slice_form' hr20
    have H := H.add (F := Rp SB [.slice a21 (ws[i]).length k22] (ws[i])) hr20
    refine qL .seq 46 (sq 8 11) 24 b17 o18 0 (.slice a21 (ws[i]).length k22) (H.fc 1 rfl) ?_
    refine qF 3 [(0, .slice wa_ ws.length wc), (1, .slice aa as_.length ac), (2, .I sy), (3, .slice ka ks.length kc), (9, .P db2 0), (10, .I ((nn : Nat) : Int)), (11, .I i), (12, .slice (some ⟨b8, 0, none⟩) 64 64), (13, .I k), (49, .bool (decide (((k : Int) : Int) < (((ws[i]).length : Nat) : Int))))] ?_
    exact hJ12 (decide (((k : Int) : Int) < (((ws[i]).length : Nat) : Int))) (decide_eq_decide.2 (by constructor <;> intro _ <;> omega))
   ·
    refine qF 8 [(0, .slice wa_ ws.length wc), (1, .slice aa as_.length ac), (2, .I sy), (3, .slice ka ks.length kc), (9, .P db2 0), (10, .I ((nn : Nat) : Int)), (11, .I i), (12, .slice (some ⟨b8, 0, none⟩) 64 64), (13, .I k), (49, .bool false)] ?_
    exact hJ12 false ((decide_eq_false (by omega)).symm)
  ·
   refine qC bj13 (fun h23 => ?_) (fun h23 => ?_)
   ·
    rw [hbj14] at h23
    replace h23 := of_decide_eq_true h23
    refine qR 3 [.c [4, 0, 1, 0, 0, 1, 0, 0, 1, 0, 1, 0, 0, 1, 0, 0], .b 3, .c [4, 0, 1, 0, 0, 1, 0, 0, 1, 0, 1, 0, 0, 2], .l [4, 0, 1, 0, 0, 1, 0, 0, 1, 0, 1, 0, 0], .b 2, .c [4, 0, 1, 0, 0, 1, 0, 0, 2], .b 1, .c [4, 0, 1, 0, 0, 2], .l [4, 0, 1, 0, 0], .b 0, .c [5]] [(0, .slice wa_ ws.length wc), (1, .slice aa as_.length ac), (2, .I sy), (3, .slice ka ks.length kc), (9, .P db2 0), (10, .I ((nn : Nat) : Int)), (11, .I i), (12, .slice (some ⟨b8, 0, none⟩) 64 64), (13, .I k)] ?_
    refine qG (sq 0 11) ?_
    refine qP 4 (sq 4 11) [(0, .slice wa_ ws.length wc), (1, .slice aa as_.length ac), (2, .I sy), (3, .slice ka ks.length kc), (9, .P db2 0), (10, .I ((nn : Nat) : Int)), (11, .I i), (12, .slice (some ⟨b8, 0, none⟩) 64 64), (13, .I k), (52, .slice (some ⟨b8, 0, none⟩) 64 64), (53, .I k), (54, .slice wa_ ws.length wc), (55, .I i)] ?_
    have hx24 : i < ws.length := by omega
    refine qX .seq 56 (sq 5 11) 22 24 (i : Int) SB (ws[i]) H 0 rfl i (by omega) (List.getElem?_eq_getElem hx24) ?_
    intro b25 o26 es27 hr28 H
    obtain ⟨a29, k30, rfl⟩ := Shape.slice_form' hr28
    have H := H.add (F := Rp SB [.slice a29 (ws[i]).length k30] (ws[i])) hr28
    refine qL .seq 57 (sq 6 11) 24 b25 o26 0 (.slice a29 (ws[i]).length k30) (H.fc 1 rfl) ?_
    refine qP 1 (sq 7 11) [(0, .slice wa_ ws.length wc), (1, .slice aa as_.length ac), (2, .I sy), (3, .slice ka ks.length kc), (9, .P db2 0), (10, .I ((nn : Nat) : Int)), (11, .I i), (12, .slice (some ⟨b8, 0, none⟩) 64 64), (13, .I k), (52, .slice (some ⟨b8, 0, none⟩) 64 64), (53, .I k), (57, .slice a29 (ws[i]).length k30), (58, .I k)] ?_
    have hx31 : k < (ws[i]).length := by omega
    refine qX .seq 59 (sq 8 11) 24 5 (k : Int) Sb ((ws[i])[k]) H 0 rfl k (by omega) (List.getElem?_eq_getElem hx31) ?_
    intro b32 o33 es34 hr35 H
    obtain rfl := hr35
    refine qL .seq 60 (sq 9 11) 5 b32 o33 0 (.int .u8 ((((ws[i])[k]).toNat : Nat) : Int)) (H.fc 0 rfl) ?_
    have hn37 : 64 = (padTo ws[i] k).length := by rw [padTo_len]
    have hx36 : k < (padTo ws[i] k).length := by rw [padTo_len]; omega
    refine RW.indexW (κ := .seq) (d := some 61) (r := (sq 10 11)) (T := 24) (e := 5) (m := 1) (ik := .i64) (ix := (k : Int)) (sh := Sb) (xs := (padTo ws[i] k)) (a := (some ⟨b8, 0, none⟩)) (len := 64) (cap := 64) (by as_aux_lemma => kernel_rfl) (by as_aux_lemma => kernel_rfl) rfl H k (by omega) hx36 hn37 ?_
    intro b38 es39 ha40 hcell41 hr42
    obtain rfl := hr42
    refine RW.storeW (d := none) (r := (sq 11 11)) (e := 5) (m := 1) (b := b38) (k := k) (v := .int .u8 ((((ws[i])[k]).toNat : Nat) : Int)) (by as_aux_lemma => kernel_rfl) rfl (by as_aux_lemma => kernel_rfl) H ha40 hx36 hn37 ((ws[i])[k]) Shape.bv_mk ?_
    intro w43 H
    have H := H.reW (ys := (padTo ws[i] (k + 1))) (padTo_step (by omega))
    refine qF 0 [(0, .slice wa_ ws.length wc), (1, .slice aa as_.length ac), (2, .I sy), (3, .slice ka ks.length kc), (9, .P db2 0), (10, .I ((nn : Nat) : Int)), (11, .I i), (12, .slice (some ⟨b8, 0, none⟩) 64 64), (13, .I k)] ?_
    refine qR 1 [.c [4, 0, 1, 0, 0, 1, 0, 0, 1, 0, 1, 0, 0, 2], .l [4, 0, 1, 0, 0, 1, 0, 0, 1, 0, 1, 0, 0], .b 2, .c [4, 0, 1, 0, 0, 1, 0, 0, 2], .b 1, .c [4, 0, 1, 0, 0, 2], .l [4, 0, 1, 0, 0], .b 0, .c [5]] [(0, .slice wa_ ws.length wc), (1, .slice aa as_.length ac), (2, .I sy), (3, .slice ka ks.length kc), (9, .P db2 0), (10, .I ((nn : Nat) : Int)), (11, .I i), (12, .slice (some ⟨b8, 0, none⟩) 64 64), (13, .I k)] ?_
    refine qG (sq 0 3) ?_
    refine qP 1 (sq 1 3) [(0, .slice wa_ ws.length wc), (1, .slice aa as_.length ac), (2, .I sy), (3, .slice ka ks.length kc), (9, .P db2 0), (10, .I ((nn : Nat) : Int)), (11, .I i), (12, .slice (some ⟨b8, 0, none⟩) 64 64), (13, .I k), (50, .I k)] ?_
    refine qI .seq 51 (sq 2 3) ((k : Int) + 1) ?_
    refine qF 1 [(0, .slice wa_ ws.length wc), (1, .slice aa as_.length ac), (2, .I sy), (3, .slice ka ks.length kc), (9, .P db2 0), (10, .I ((nn : Nat) : Int)), (11, .I i), (12, .slice (some ⟨b8, 0, none⟩) 64 64), (13, .I ((k : Int) + 1))] ?_
    have H := H.pick [3, 4, 5] rfl
    exact WK.back (hback10 (k + 1) _ ⟨H, by omega⟩ (by first | omega | (simp only []; omega))) (by as_aux_lemma => kernel_rfl)
   ·
    rw [hbj14] at h23
    replace h23 := of_decide_eq_false h23
    rw [padTo_end (l := ws[i]) (k := k) (by omega)] at H
    have H : Hp w S [] ((diskM db2 D sa sk)) [⟨Sb, 5, .slice (some ⟨b8, 0, none⟩) 64 64, (padTo ws[i] 64)⟩, ⟨stepS, 67, .slice sa D.steps.length sk, D.steps⟩] [Rp (Shape.slice SB) [.slice wa_ ws.length wc] ws, Rp (Shape.slice (Shape.int .i64)) [.slice aa as_.length ac] as_, Rp SB [.slice ka ks.length kc] ks] _ := H
    refine qR 3 [.c [4, 0, 1, 0, 0, 1, 0, 0, 2, 0, 0], .c [4, 0, 1, 0, 0, 1, 0, 0, 2, 0, 1], .c [4, 0, 1, 0, 0, 1, 0, 0, 3], .b 1, .c [4, 0, 1, 0, 0, 2], .l [4, 0, 1, 0, 0], .b 0, .c [5]] [(0, .slice wa_ ws.length wc), (1, .slice aa as_.length ac), (2, .I sy), (3, .slice ka ks.length kc), (9, .P db2 0), (10, .I ((nn : Nat) : Int)), (11, .I i), (12, .slice (some ⟨b8, 0, none⟩) 64 64)] ?_
    refine qG (sq 0 9) ?_
    refine qP 3 (sq 3 9) [(0, .slice wa_ ws.length wc), (1, .slice aa as_.length ac), (2, .I sy), (3, .slice ka ks.length kc), (9, .P db2 0), (10, .I ((nn : Nat) : Int)), (11, .I i), (12, .slice (some ⟨b8, 0, none⟩) 64 64), (62, .P db2 0), (63, .slice aa as_.length ac), (64, .I i)] ?_
    have hx44 : i < as_.length := by omega
    refine qX .seq 65 (sq 4 9) 23 3 (i : Int) (Shape.int .i64) (as_[i]) H 1 rfl i (by omega) (List.getElem?_eq_getElem hx44) ?_
    intro b45 o46 es47 hr48 H
    have hb49 := Shape.i64_bd hr48
    obtain ⟨rfl, -⟩ := hr48
    refine qL .seq 66 (sq 5 9) 3 b45 o46 0 (.I (as_[i])) (H.fc 0 rfl) ?_
    refine RW.pv (κ := .seq) (d := some 67) (r := (sq 6 9)) (v := .I (IntKind.i64.wrap ((BitVec.ofInt 64 (as_[i]) &&& BitVec.ofInt 64 7).toNat : Nat))) (v' := .I ((as_[i]) % 8)) (by as_aux_lemma => kernel_rfl) (and_i64 (j := 3) (m := 7) (by decide) (by decide)) ?_
    refine qP 1 (sq 7 9) [(0, .slice wa_ ws.length wc), (1, .slice aa as_.length ac), (2, .I sy), (3, .slice ka ks.length kc), (9, .P db2 0), (10, .I ((nn : Nat) : Int)), (11, .I i), (62, .P db2 0), (67, .I ((as_[i]) % 8)), (68, .slice (some ⟨b8, 0, none⟩) 64 64)] ?_
    have H : Hp w S [] ((diskM db2 D sa sk)) [⟨stepS, 67, .slice sa D.steps.length sk, D.steps⟩] [Rp SB [.slice (some ⟨b8, 0, none⟩) 64 64] (padTo ws[i] 64), Fc b45 o46 [.I (as_[i])], Rp (Shape.slice SB) [.slice wa_ ws.length wc] ws, Rp (Shape.slice (Shape.int .i64)) [.slice aa as_.length ac] as_, Rp SB [.slice ka ks.length kc] ks] _ := H.freezeW 0 rfl
    have H := H.perms (M' := diskM db2 D sa sk ++ []) (W' := [⟨stepS, 67, .slice sa D.steps.length sk, D.steps⟩]) (List.perm_append_comm (l₁ := diskM db2 D sa sk) (l₂ := ([] : Heap))) (List.Perm.refl _)
    refine RW.callS (d := some 69) (r := (sq 8 9)) (g := 8) (args := #[.P db2 0, .string (⟨#[102]⟩ : ByteArray), .I ((as_[i]) % 8), .slice (some ⟨b8, 0, none⟩) 64 64]) (by as_aux_lemma => kernel_rfl) (dWriteN (hSG.ok.1) (by have := hSG.ok.2.2.2; omega) (hSG.ok.2.2.1) (fun h => by rw [hSG.ok.2.1] at h; cases h) (by first | assumption | decide | (simp [maxLen]; done)) (by omega) (xs := (padTo ws[i] 64)) (padTo_len _ _) ((H.lend (M1 := diskM db2 D sa sk) (W1 := [⟨stepS, 67, .slice sa D.steps.length sk, D.steps⟩])).pick [0] rfl)) ?_
    rintro _ w50 ⟨D51, sa52, sk53, ⟨e54, rfl, hR55⟩, H'⟩
    have H := H.back (M1 := diskM db2 D sa sk) (W1 := [⟨stepS, 67, .slice sa D.steps.length sk, D.steps⟩]) H'
    have H := H.perms (M' := ((diskM db2 D51 sa52 sk53))) (W' := [⟨stepS, 67, .slice sa52 D51.steps.length sk53, D51.steps⟩]) ((List.perm_append_comm (l₁ := diskM db2 D51 sa52 sk53) (l₂ := ([] : Heap))).symm) (List.Perm.refl _)
    have H : Hp w S [] ((diskM db2 D51 sa52 sk53)) [⟨stepS, 67, .slice sa52 D51.steps.length sk53, D51.steps⟩] [Rp SB [.slice (some ⟨b8, 0, none⟩) 64 64] (padTo ws[i] 64), Fc b45 o46 [.I (as_[i])], Rp (Shape.slice SB) [.slice wa_ ws.length wc] ws, Rp (Shape.slice (Shape.int .i64)) [.slice aa as_.length ac] as_, Rp SB [.slice ka ks.length kc] ks] _ := H
    have hR55 : WriteR D (⟨#[102]⟩ : ByteArray) ((as_[i]) % 8) (padTo ws[i] 64) e54 D51 := hR55
    obtain ⟨he_, hSG2⟩ := SG.write hSG nm_f (by decide) ⟨by omega, by omega⟩ (padTo_len _ _) (wf_at hiw hia) hR55
    subst he_
    refine qF 1 [(0, .slice wa_ ws.length wc), (1, .slice aa as_.length ac), (2, .I sy), (3, .slice ka ks.length kc), (9, .P db2 0), (10, .I ((nn : Nat) : Int)), (11, .I i), (70, .bool false)] ?_
    refine qR 3 [.c [4, 0, 1, 0, 0, 1, 0, 0, 3, 0], .c [4, 0, 1, 0, 0, 1, 0, 0, 4], .b 1, .c [4, 0, 1, 0, 0, 2], .l [4, 0, 1, 0, 0], .b 0, .c [5]] [(0, .slice wa_ ws.length wc), (1, .slice aa as_.length ac), (2, .I sy), (3, .slice ka ks.length kc), (9, .P db2 0), (10, .I ((nn : Nat) : Int)), (11, .I i)] ?_
    refine qG (sq 0 8) ?_
    refine qP 4 (sq 4 8) [(0, .slice wa_ ws.length wc), (1, .slice aa as_.length ac), (2, .I sy), (3, .slice ka ks.length kc), (9, .P db2 0), (10, .I ((nn : Nat) : Int)), (11, .I i), (74, .bool ((i : Int) == sy))] ?_
    refine tE (fun b_ => [(0, .slice wa_ ws.length wc), (1, .slice aa as_.length ac), (2, .I sy), (3, .slice ka ks.length kc), (9, .P db2 0), (10, .I ((nn : Nat) : Int)), (11, .I i), (74, .bool b_)]) (i : Int) sy (fun h56 => ?_) (fun h56 => ?_)
    ·
     refine qP 1 (sq 5 8) [(0, .slice wa_ ws.length wc), (1, .slice aa as_.length ac), (2, .I sy), (3, .slice ka ks.length kc), (9, .P db2 0), (10, .I ((nn : Nat) : Int)), (11, .I i), (74, .bool true), (75, .P db2 0)] ?_
     have H := H.perms (M' := diskM db2 D51 sa52 sk53 ++ []) (W' := [⟨stepS, 67, .slice sa52 D51.steps.length sk53, D51.steps⟩]) (List.perm_append_comm (l₁ := diskM db2 D51 sa52 sk53) (l₂ := ([] : Heap))) (List.Perm.refl _)
     refine RW.callS (d := some 76) (r := (sq 6 8)) (g := 9) (args := #[.P db2 0, .string (⟨#[102]⟩ : ByteArray)]) (by as_aux_lemma => kernel_rfl) (dSync (hSG2.ok.1) (by have := hSG2.ok.2.2.2; omega) (hSG2.ok.2.2.1) (fun h => by rw [hSG2.ok.2.1] at h; cases h) ((H.lend (M1 := diskM db2 D51 sa52 sk53) (W1 := [⟨stepS, 67, .slice sa52 D51.steps.length sk53, D51.steps⟩])).pick [] rfl)) ?_
     rintro _ w57 ⟨D58, sa59, sk60, ⟨e61, rfl, hR62⟩, H'⟩
     have H := H.back (M1 := diskM db2 D51 sa52 sk53) (W1 := [⟨stepS, 67, .slice sa52 D51.steps.length sk53, D51.steps⟩]) H'
     have H := H.perms (M' := ((diskM db2 D58 sa59 sk60))) (W' := [⟨stepS, 67, .slice sa59 D58.steps.length sk60, D58.steps⟩]) ((List.perm_append_comm (l₁ := diskM db2 D58 sa59 sk60) (l₂ := ([] : Heap))).symm) (List.Perm.refl _)
     have H : Hp w S [] ((diskM db2 D58 sa59 sk60)) [⟨stepS, 67, .slice sa59 D58.steps.length sk60, D58.steps⟩] [Rp SB [.slice (some ⟨b8, 0, none⟩) 64 64] (padTo ws[i] 64), Fc b45 o46 [.I (as_[i])], Rp (Shape.slice SB) [.slice wa_ ws.length wc] ws, Rp (Shape.slice (Shape.int .i64)) [.slice aa as_.length ac] as_, Rp SB [.slice ka ks.length kc] ks] _ := H
     have hR62 : SyncR D51 (⟨#[102]⟩ : ByteArray) e61 D58 := hR62
     obtain rfl : m = none := by
      cases hm9 : m with
      | none => rfl
      | some s9 => have := hms s9 hm9; omega
     obtain ⟨he_, hSG3⟩ := SG.sync hSG2 hR62
     subst he_
     refine qF 2 [(0, .slice wa_ ws.length wc), (1, .slice aa as_.length ac), (2, .I sy), (3, .slice ka ks.length kc), (9, .P db2 0), (10, .I ((nn : Nat) : Int)), (11, .I i), (78, .bool false)] ?_
     refine qR 3 [.c [4, 0, 1, 0, 0, 2], .l [4, 0, 1, 0, 0], .b 0, .c [5]] [(0, .slice wa_ ws.length wc), (1, .slice aa as_.length ac), (2, .I sy), (3, .slice ka ks.length kc), (9, .P db2 0), (10, .I ((nn : Nat) : Int)), (11, .I i)] ?_
     refine qG (sq 0 3) ?_
     refine qP 1 (sq 1 3) [(0, .slice wa_ ws.length wc), (1, .slice aa as_.length ac), (2, .I sy), (3, .slice ka ks.length kc), (9, .P db2 0), (10, .I ((nn : Nat) : Int)), (11, .I i), (36, .I i)] ?_
     refine qI .seq 37 (sq 2 3) ((i : Int) + 1) ?_
     refine qF 1 [(0, .slice wa_ ws.length wc), (1, .slice aa as_.length ac), (2, .I sy), (3, .slice ka ks.length kc), (9, .P db2 0), (10, .I ((nn : Nat) : Int)), (11, .I ((i : Int) + 1))] ?_
     have hn1 : (some i : Option Nat) = none → ¬ (0 ≤ sy ∧ sy < ((i + 1 : Nat) : Int)) := fun hh => by cases hh
     have hn2 : ∀ s : Nat, (some i : Option Nat) = some s → sy = (s : Int) ∧ s < i + 1 := fun s hh => by cases hh; exact ⟨by omega, by omega⟩
     have hSG9 := hSG3
     have H := H.pick [2, 3, 4] rfl
     exact WK.back (hback5 (i + 1, D58, sa59, sk60, (some i)) _ ⟨H, by omega, hSG9, hn1, hn2⟩ (by first | omega | (simp only []; omega))) (by as_aux_lemma => kernel_rfl)
    ·
     refine qF 4 [(0, .slice wa_ ws.length wc), (1, .slice aa as_.length ac), (2, .I sy), (3, .slice ka ks.length kc), (9, .P db2 0), (10, .I ((nn : Nat) : Int)), (11, .I i), (78, .bool false)] ?_
     refine qR 3 [.c [4, 0, 1, 0, 0, 2], .l [4, 0, 1, 0, 0], .b 0, .c [5]] [(0, .slice wa_ ws.length wc), (1, .slice aa as_.length ac), (2, .I sy), (3, .slice ka ks.length kc), (9, .P db2 0), (10, .I ((nn : Nat) : Int)), (11, .I i)] ?_
     refine qG (sq 0 3) ?_
     refine qP 1 (sq 1 3) [(0, .slice wa_ ws.length wc), (1, .slice aa as_.length ac), (2, .I sy), (3, .slice ka ks.length kc), (9, .P db2 0), (10, .I ((nn : Nat) : Int)), (11, .I i), (36, .I i)] ?_
     refine qI .seq 37 (sq 2 3) ((i : Int) + 1) ?_
     refine qF 1 [(0, .slice wa_ ws.length wc), (1, .slice aa as_.length ac), (2, .I sy), (3, .slice ka ks.length kc), (9, .P db2 0), (10, .I ((nn : Nat) : Int)), (11, .I ((i : Int) + 1))] ?_
     have hn1 : m = none → ¬ (0 ≤ sy ∧ sy < ((i + 1 : Nat) : Int)) := fun hh => by have := hmn hh; omega
     have hn2 : ∀ s : Nat, m = some s → sy = (s : Int) ∧ s < i + 1 := fun s hh => by have := hms s hh; omega
     have hSG9 := hSG2
     have H := H.pick [2, 3, 4] rfl
     exact WK.back (hback5 (i + 1, D51, sa52, sk53, m) _ ⟨H, by omega, hSG9, hn1, hn2⟩ (by first | omega | (simp only []; omega))) (by as_aux_lemma => kernel_rfl)
 ·
  refine qR 2 [.c [5, 0], .c [6]] [(0, .slice wa_ ws.length wc), (1, .slice aa as_.length ac), (2, .I sy), (3, .slice ka ks.length kc), (9, .P db2 0), (10, .I ((nn : Nat) : Int))] ?_
  refine qG (sq 0 3) ?_
  refine qP 2 (sq 2 3) [(0, .slice wa_ ws.length wc), (1, .slice aa as_.length ac), (2, .I sy), (9, .P db2 0), (10, .I ((nn : Nat) : Int)), (79, .P db2 0), (80, .slice ka ks.length kc)] ?_
  have H := H.perms (M' := diskM db2 D sa sk ++ []) (W' := [⟨stepS, 67, .slice sa D.steps.length sk, D.steps⟩]) (List.perm_append_comm (l₁ := diskM db2 D sa sk) (l₂ := ([] : Heap))) (List.Perm.refl _)
  refine RW.callS (d := some 81) (r := (sq 3 3)) (g := 10) (args := #[.P db2 0, .slice ka ks.length kc]) (by as_aux_lemma => kernel_rfl) (dCrashAny hSG.ok.1 (by have := hSG.ok.2.2.2; omega) ((H.lend (M1 := diskM db2 D sa sk) (W1 := [⟨stepS, 67, .slice sa D.steps.length sk, D.steps⟩])).pick [2] rfl)) ?_
  rintro _ w63 ⟨rfl, ns64, nb65, H'⟩
  have H := H.back (M1 := diskM db2 D sa sk) (W1 := [⟨stepS, 67, .slice sa D.steps.length sk, D.steps⟩]) H'
  have H := H.perms (M' := ((diskM db2 (crashD D ks ns64 nb65) none 0))) (W' := [⟨stepS, 67, .slice none ((crashD D ks ns64 nb65).steps.length) 0, (crashD D ks ns64 nb65).steps⟩]) ((List.perm_append_comm (l₁ := diskM db2 (crashD D ks ns64 nb65) none 0) (l₂ := ([] : Heap))).symm) (List.Perm.refl _)
  have H : Hp w S [] ((diskM db2 (crashD D ks ns64 nb65) none 0)) [⟨stepS, 67, .slice none ((crashD D ks ns64 nb65).steps.length) 0, (crashD D ks ns64 nb65).steps⟩] [Rp (Shape.slice SB) [.slice wa_ ws.length wc] ws, Rp (Shape.slice (Shape.int .i64)) [.slice aa as_.length ac] as_, Rp SB [.slice ka ks.length kc] ks] _ := H
  have hok4 := DOk.crashD' hSG.ok.1 ks ns64 nb65
  refine qF 0 [(0, .slice wa_ ws.length wc), (1, .slice aa as_.length ac), (2, .I sy), (9, .P db2 0), (10, .I ((nn : Nat) : Int))] ?_
  refine qR 1 [.c [6, 0], .c [7]] [(0, .slice wa_ ws.length wc), (1, .slice aa as_.length ac), (2, .I sy), (9, .P db2 0), (10, .I ((nn : Nat) : Int))] ?_
  refine qG (sq 0 7) ?_
  refine qP 1 (sq 1 7) [(0, .slice wa_ ws.length wc), (1, .slice aa as_.length ac), (2, .I sy), (9, .P db2 0), (10, .I ((nn : Nat) : Int)), (83, .P db2 0)] ?_
  have H := H.perms (M' := diskM db2 (crashD D ks ns64 nb65) none 0 ++ []) (W' := [⟨stepS, 67, .slice none ((crashD D ks ns64 nb65).steps.length) 0, (crashD D ks ns64 nb65).steps⟩]) (List.perm_append_comm (l₁ := diskM db2 (crashD D ks ns64 nb65) none 0) (l₂ := ([] : Heap))) (List.Perm.refl _)
  refine RW.callS (d := some 84) (r := (sq 2 7)) (g := 11) (args := #[.P db2 0, .string (⟨#[102]⟩ : ByteArray)]) (by as_aux_lemma => kernel_rfl) (dSizeE hok4 rfl ((H.lend (M1 := diskM db2 (crashD D ks ns64 nb65) none 0) (W1 := [⟨stepS, 67, .slice none ((crashD D ks ns64 nb65).steps.length) 0, (crashD D ks ns64 nb65).steps⟩])).pick [] rfl)) ?_
  rintro _ w66 ⟨sz, es, rfl, hsz, H'⟩
  have H := H.back (M1 := diskM db2 (crashD D ks ns64 nb65) none 0) (W1 := [⟨stepS, 67, .slice none ((crashD D ks ns64 nb65).steps.length) 0, (crashD D ks ns64 nb65).steps⟩]) H'
  have H := H.perms (M' := ((diskM db2 (crashD D ks ns64 nb65) none 0))) (W' := [⟨stepS, 67, .slice none ((crashD D ks ns64 nb65).steps.length) 0, (crashD D ks ns64 nb65).steps⟩]) ((List.perm_append_comm (l₁ := diskM db2 (crashD D ks ns64 nb65) none 0) (l₂ := ([] : Heap))).symm) (List.Perm.refl _)
  have H : Hp w S [] ((diskM db2 (crashD D ks ns64 nb65) none 0)) [⟨stepS, 67, .slice none ((crashD D ks ns64 nb65).steps.length) 0, (crashD D ks ns64 nb65).steps⟩] [Rp (Shape.slice SB) [.slice wa_ ws.length wc] ws, Rp (Shape.slice (Shape.int .i64)) [.slice aa as_.length ac] as_, Rp SB [.slice ka ks.length kc] ks] _ := H
  have hes : es = 71 ∨ es = 0 := hsz.imp And.left And.left
  refine qF 5 [(0, .slice wa_ ws.length wc), (1, .slice aa as_.length ac), (2, .I sy), (9, .P db2 0), (10, .I ((nn : Nat) : Int)), (14, .I sz), (15, .I es)] ?_
  refine qR 2 [.c [7, 0, 0], .c [7, 0, 1], .c [8]] [(0, .slice wa_ ws.length wc), (1, .slice aa as_.length ac), (2, .I sy), (9, .P db2 0), (10, .I ((nn : Nat) : Int)), (14, .I sz), (15, .I es)] ?_
  refine WK.join (fun b_ : Bool => b_ = decide (sy < 0 ∨ ((nn : Nat) : Int) ≤ sy)) (fun b_ => [(0, .slice wa_ ws.length wc), (1, .slice aa as_.length ac), (2, .I sy), (9, .P db2 0), (10, .I ((nn : Nat) : Int)), (14, .I sz), (15, .I es), (93, .bool b_)]) [Cq Try.prog 3 [7, 0, 1], Cq Try.prog 3 [8]] (fun hJ67 => ?_) (fun bj68 hbj69 => ?_)
  ·
   refine qG (sq 0 7) ?_
   refine qP 3 (sq 3 7) [(0, .slice wa_ ws.length wc), (1, .slice aa as_.length ac), (2, .I sy), (9, .P db2 0), (10, .I ((nn : Nat) : Int)), (14, .I sz), (15, .I es), (89, .bool (decide ((sy : Int) < 0)))] ?_
   refine tD (fun b_ => [(0, .slice wa_ ws.length wc), (1, .slice aa as_.length ac), (2, .I sy), (9, .P db2 0), (10, .I ((nn : Nat) : Int)), (14, .I sz), (15, .I es), (89, .bool b_)]) ((sy : Int) < 0) (fun h70 => ?_) (fun h70 => ?_)
   ·
    refine qF 4 [(0, .slice wa_ ws.length wc), (1, .slice aa as_.length ac), (2, .I sy), (9, .P db2 0), (10, .I ((nn : Nat) : Int)), (14, .I sz), (15, .I es), (93, .bool true)] ?_
    exact hJ67 true ((decide_eq_true (by omega)).symm)
   ·
    refine qF 4 [(0, .slice wa_ ws.length wc), (1, .slice aa as_.length ac), (2, .I sy), (9, .P db2 0), (10, .I ((nn : Nat) : Int)), (14, .I sz), (15, .I es), (93, .bool (decide ((sy : Int) ≥ ((nn : Nat) : Int))))] ?_
    exact hJ67 (decide ((sy : Int) ≥ ((nn : Nat) : Int))) (decide_eq_decide.2 (by constructor <;> intro _ <;> omega))
  ·
   refine qC bj68 (fun h71 => ?_) (fun h71 => ?_)
   ·
    rw [hbj69] at h71
    replace h71 := of_decide_eq_true h71
    refine qR 1 [.c [7, 0, 1, 0, 0], .c [7, 0, 1, 0, 1], .c [8]] [(15, .I es)] ?_
    refine qG (sq 0 10) ?_
    refine qP 3 (sq 3 10) [(15, .I es), (96, .bool (es == 0))] ?_
    refine tE (fun b_ => [(15, .I es), (96, .bool b_)]) es 0 (fun h72 => ?_) (fun h72 => ?_)
    ·
     refine qP 4 (sq 7 10) [(100, .bool true)] ?_
     refine qK .seq (some 101) (sq 8 10) 12 #[] (heads_spec (S := fun _ => True)) ?_
     rintro _ w73 hE74 rfl
     have H := H.ext hE74
     refine qF 2 [(8, .bool true)] ?_
     refine qT (.bool true) Try.func3 ?_
     exact ⟨_, rfl, H.done, rfl⟩
    ·
     refine qP 4 (sq 7 10) [(100, .bool (es == 71))] ?_
     refine tE (fun b_ => [(100, .bool b_)]) es 71 (fun h75 => ?_) (fun h75 => ?_)
     ·
      refine qK .seq (some 101) (sq 8 10) 12 #[] (heads_spec (S := fun _ => True)) ?_
      rintro _ w76 hE77 rfl
      have H := H.ext hE77
      refine qF 2 [(8, .bool true)] ?_
      refine qT (.bool true) Try.func3 ?_
      exact ⟨_, rfl, H.done, rfl⟩
     ·
      omega
   ·
    rw [hbj69] at h71
    replace h71 := of_decide_eq_false h71
    obtain ⟨s, hss⟩ : ∃ s : Nat, sy = (s : Int) := ⟨sy.toNat, by omega⟩
    have hmS : m = some s := by
     cases hm9 : m with
     | none => exact absurd ⟨by omega, by omega⟩ (hmn hm9)
     | some s9 =>
      have := hms s9 hm9
      have e9 : s9 = s := by omega
      rw [e9]
    have hin : i = nn := by omega
    have hSGn := hSG
    rw [hin, hmS] at hSGn
    have hsn : s < nn := by omega
    obtain ⟨ff, hff, hfn, hlaw⟩ := sectors_law hSGn ks ns64 nb65
    have hszf : es = 0 ∧ sz = ff.size := by
     rcases hsz with ⟨_, h9⟩ | ⟨h8, g9, hg9, hgn9, h7⟩
     · rw [hfn] at h9; cases h9
     · rw [hff] at hg9
       rw [List.mem_singleton.1 hg9] at h7
       exact ⟨h8, h7⟩
    refine qR 4 [.c [8, 0, 1], .c [9]] [(0, .slice wa_ ws.length wc), (1, .slice aa as_.length ac), (2, .I sy), (9, .P db2 0), (10, .I ((nn : Nat) : Int)), (14, .I sz), (104, .bool (es != 0))] ?_
    refine qN es 0 (fun h78 => ?_) (fun h78 => ?_)
    ·
     omega
    ·
     refine qR 5 [.c [9, 0, 1, 0], .b 4, .c [10]] [(0, .slice wa_ ws.length wc), (1, .slice aa as_.length ac), (2, .I sy), (9, .P db2 0), (10, .I ((nn : Nat) : Int)), (14, .I sz), (16, .I 0)] ?_
     refine WK.loop (α := Nat) (b := cd Try.prog 3 [9, 0, 1, 0, 0]) (by as_aux_lemma => kernel_rfl) (fun t => [(0, .slice wa_ ws.length wc), (1, .slice aa as_.length ac), (2, .I sy), (9, .P db2 0), (10, .I ((nn : Nat) : Int)), (14, .I sz), (16, .I t)]) (fun t w' => Hp w S [] ((diskM db2 (crashD D ks ns64 nb65) none 0)) [⟨stepS, 67, .slice none ((crashD D ks ns64 nb65).steps.length) 0, (crashD D ks ns64 nb65).steps⟩] [Rp (Shape.slice SB) [.slice wa_ ws.length wc] ws, Rp (Shape.slice (Shape.int .i64)) [.slice aa as_.length ac] as_, Rp SB [.slice ka ks.length kc] ks] w' ∧ t ≤ 8) (fun t => 8 - t) 0 ⟨H, by omega⟩ (rfl) ?_
     rintro t w80 ⟨H, ht8⟩ hback79
     refine qR 3 [.c [9, 0, 1, 0, 0, 0, 1], .c [9, 0, 1, 0, 0, 1], .l [9, 0, 1, 0, 0], .b 4, .c [10]] [(0, .slice wa_ ws.length wc), (1, .slice aa as_.length ac), (2, .I sy), (9, .P db2 0), (10, .I ((nn : Nat) : Int)), (14, .I sz), (16, .I t), (106, .bool (decide (((t : Int) : Int) < 8)))] ?_
     refine qD (((t : Int) : Int) < 8) (fun h81 => ?_) (fun h81 => ?_)
     ·
      refine qR 4 [.c [9, 0, 1, 0, 0, 1, 0, 0, 0], .c [9, 0, 1, 0, 0, 1, 0, 0, 1], .b 5, .c [9, 0, 1, 0, 0, 2], .l [9, 0, 1, 0, 0], .b 4, .c [10]] [(0, .slice wa_ ws.length wc), (1, .slice aa as_.length ac), (2, .I sy), (9, .P db2 0), (10, .I ((nn : Nat) : Int)), (14, .I sz), (16, .I t)] ?_
      refine qG (sq 0 8) ?_
      refine qP 2 (sq 2 8) [(0, .slice wa_ ws.length wc), (1, .slice aa as_.length ac), (2, .I sy), (9, .P db2 0), (10, .I ((nn : Nat) : Int)), (14, .I sz), (16, .I t), (110, .P db2 0), (111, .I t)] ?_
      by_cases hts : (t : Int) < ff.size
      ·
       have H := H.perms (M' := diskM db2 (crashD D ks ns64 nb65) none 0 ++ []) (W' := [⟨stepS, 67, .slice none ((crashD D ks ns64 nb65).steps.length) 0, (crashD D ks ns64 nb65).steps⟩]) (List.perm_append_comm (l₁ := diskM db2 (crashD D ks ns64 nb65) none 0) (l₂ := ([] : Heap))) (List.Perm.refl _)
       refine RW.callS (d := some 112) (r := (sq 3 8)) (g := 13) (args := #[.P db2 0, .string (⟨#[102]⟩ : ByteArray), .I t]) (by as_aux_lemma => kernel_rfl) ((dReadHit hok4 rfl (f := ff) (by rw [hff]; exact List.mem_cons_self ..) hfn ⟨by omega, hts⟩) ((H.lend (M1 := diskM db2 (crashD D ks ns64 nb65) none 0) (W1 := [⟨stepS, 67, .slice none ((crashD D ks ns64 nb65).steps.length) 0, (crashD D ks ns64 nb65).steps⟩])).pick [] rfl)) ?_
       rintro _ w82 ⟨a83, c84, rfl, H'⟩
       have H := H.back (M1 := diskM db2 (crashD D ks ns64 nb65) none 0) (W1 := [⟨stepS, 67, .slice none ((crashD D ks ns64 nb65).steps.length) 0, (crashD D ks ns64 nb65).steps⟩]) H'
       have H := H.perms (M' := ((diskM db2 (crashD D ks ns64 nb65) none 0))) (W' := [⟨Sb, 5, .slice a83 ((secL ((mfind (t : Int) ff.now).getD zeroSec)).length) c84, (secL ((mfind (t : Int) ff.now).getD zeroSec))⟩, ⟨stepS, 67, .slice none ((crashD D ks ns64 nb65).steps.length) 0, (crashD D ks ns64 nb65).steps⟩]) ((List.perm_append_comm (l₁ := diskM db2 (crashD D ks ns64 nb65) none 0) (l₂ := ([] : Heap))).symm) (List.Perm.refl _)
       have H : Hp w S [] ((diskM db2 (crashD D ks ns64 nb65) none 0)) [⟨Sb, 5, .slice a83 ((secL ((mfind (t : Int) ff.now).getD zeroSec)).length) c84, (secL ((mfind (t : Int) ff.now).getD zeroSec))⟩, ⟨stepS, 67, .slice none ((crashD D ks ns64 nb65).steps.length) 0, (crashD D ks ns64 nb65).steps⟩] [Rp (Shape.slice SB) [.slice wa_ ws.length wc] ws, Rp (Shape.slice (Shape.int .i64)) [.slice aa as_.length ac] as_, Rp SB [.slice ka ks.length kc] ks] _ := H
       obtain ⟨xg, hxg⟩ : ∃ z : Sec, z = (mfind (t : Int) ff.now).getD zeroSec := ⟨_, rfl⟩
       rw [← hxg] at H ⊢
       have H : Hp w S [] ((diskM db2 (crashD D ks ns64 nb65) none 0)) [⟨Sb, 5, .slice a83 (secL xg).length c84, (secL xg)⟩, ⟨stepS, 67, .slice none ((crashD D ks ns64 nb65).steps.length) 0, (crashD D ks ns64 nb65).steps⟩] [Rp (Shape.slice SB) [.slice wa_ ws.length wc] ws, Rp (Shape.slice (Shape.int .i64)) [.slice aa as_.length ac] as_, Rp SB [.slice ka ks.length kc] ks] _ := H
       have H : Hp w S [] ((diskM db2 (crashD D ks ns64 nb65) none 0)) [⟨stepS, 67, .slice none ((crashD D ks ns64 nb65).steps.length) 0, (crashD D ks ns64 nb65).steps⟩] [Rp SB [.slice a83 (secL xg).length c84] (secL xg), Rp (Shape.slice SB) [.slice wa_ ws.length wc] ws, Rp (Shape.slice (Shape.int .i64)) [.slice aa as_.length ac] as_, Rp SB [.slice ka ks.length kc] ks] _ := H.freezeW 0 rfl
       refine qF 5 [(0, .slice wa_ ws.length wc), (1, .slice aa as_.length ac), (2, .I sy), (9, .P db2 0), (10, .I ((nn : Nat) : Int)), (14, .I sz), (16, .I t), (17, .slice a83 (secL xg).length c84), (18, .I 0)] ?_
       refine qR 3 [.c [9, 0, 1, 0, 0, 1, 0, 0, 1, 0, 1], .c [9, 0, 1, 0, 0, 1, 0, 0, 2], .b 5, .c [9, 0, 1, 0, 0, 2], .l [9, 0, 1, 0, 0], .b 4, .c [10]] [(0, .slice wa_ ws.length wc), (1, .slice aa as_.length ac), (2, .I sy), (9, .P db2 0), (10, .I ((nn : Nat) : Int)), (14, .I sz), (16, .I t), (17, .slice a83 (secL xg).length c84), (18, .I 0), (120, .bool (!(true == (decide (((t : Int) : Int) < sz)))))] ?_
       refine qC (!(true == (decide (((t : Int) : Int) < sz)))) (fun h85 => ?_) (fun h85 => ?_)
       ·
        replace h85 : ((true == (decide (((t : Int) : Int) < sz)))) = false := by revert h85; cases ((true == (decide (((t : Int) : Int) < sz)))) <;> simp
        replace h85 := ne_of_beq_false h85
        exact absurd (decide_eq_true (by omega)).symm h85
       ·
        replace h85 : ((true == (decide (((t : Int) : Int) < sz)))) = true := by revert h85; cases ((true == (decide (((t : Int) : Int) < sz)))) <;> simp
        replace h85 := eq_of_beq h85
        refine qR 4 [.c [9, 0, 1, 0, 0, 1, 0, 0, 3, 0], .c [9, 0, 1, 0, 0, 1, 0, 0, 4], .b 5, .c [9, 0, 1, 0, 0, 2], .l [9, 0, 1, 0, 0], .b 4, .c [10]] [(0, .slice wa_ ws.length wc), (1, .slice aa as_.length ac), (2, .I sy), (9, .P db2 0), (10, .I ((nn : Nat) : Int)), (14, .I sz), (16, .I t), (17, .slice a83 (secL xg).length c84), (18, .I 0), (19, .bool false)] ?_
        refine qG (sq 0 2) ?_
        refine RW.makeW Sb (κ := .seq) (d := some 123) (r := (sq 1 2)) (T := 24) (e := 5) (by_ := 1) (v0 := .int .u8 0) (0#8 : BitVec 8) (kl := .i64) (kc := .i64) (lv := 64) (cv := 64) (by as_aux_lemma => kernel_rfl) (nofun) (by as_aux_lemma => kernel_rfl) rfl H 64 64 (by omega) (by omega) (by omega) (by omega) (by omega) (fun _ _ => rfl) ?_
        intro b86 w87 H
        have H : Hp w S [] ((diskM db2 (crashD D ks ns64 nb65) none 0)) [⟨Sb, 5, .slice (some ⟨b86, 0, none⟩) 64 64, (List.replicate 64 (0#8 : BitVec 8))⟩, ⟨stepS, 67, .slice none ((crashD D ks ns64 nb65).steps.length) 0, (crashD D ks ns64 nb65).steps⟩] [Rp SB [.slice a83 (secL xg).length c84] (secL xg), Rp (Shape.slice SB) [.slice wa_ ws.length wc] ws, Rp (Shape.slice (Shape.int .i64)) [.slice aa as_.length ac] as_, Rp SB [.slice ka ks.length kc] ks] _ := H
        refine qF 1 [(0, .slice wa_ ws.length wc), (1, .slice aa as_.length ac), (2, .I sy), (9, .P db2 0), (10, .I ((nn : Nat) : Int)), (14, .I sz), (16, .I t), (17, .slice a83 (secL xg).length c84), (18, .I 0), (19, .bool false), (20, .slice (some ⟨b86, 0, none⟩) 64 64)] ?_
        refine qR 6 [.c [9, 0, 1, 0, 0, 1, 0, 0, 5, 0, 1, 0], .b 6, .c [9, 0, 1, 0, 0, 1, 0, 0, 6], .b 5, .c [9, 0, 1, 0, 0, 2], .l [9, 0, 1, 0, 0], .b 4, .c [10]] [(0, .slice wa_ ws.length wc), (1, .slice aa as_.length ac), (2, .I sy), (9, .P db2 0), (10, .I ((nn : Nat) : Int)), (14, .I sz), (16, .I t), (17, .slice a83 (secL xg).length c84), (18, .I 0), (19, .bool false), (20, .slice (some ⟨b86, 0, none⟩) 64 64), (21, .bool false), (22, .I 0)] ?_
        have H : Hp w S [] ((diskM db2 (crashD D ks ns64 nb65) none 0)) [⟨stepS, 67, .slice none ((crashD D ks ns64 nb65).steps.length) 0, (crashD D ks ns64 nb65).steps⟩] [Rp SB [.slice (some ⟨b86, 0, none⟩) 64 64] (List.replicate 64 (0#8 : BitVec 8)), Rp SB [.slice a83 (secL xg).length c84] (secL xg), Rp (Shape.slice SB) [.slice wa_ ws.length wc] ws, Rp (Shape.slice (Shape.int .i64)) [.slice aa as_.length ac] as_, Rp SB [.slice ka ks.length kc] ks] _ := H.freezeW 0 rfl
        have H := H.pick [1, 2, 3, 4, 0] rfl
        refine WK.loop (α := Nat × Bool × Bool × (List (BitVec 8)) × (Option Addr) × Nat × Nat) (b := cd Try.prog 3 [9, 0, 1, 0, 0, 1, 0, 0, 5, 0, 1, 0, 0]) (by as_aux_lemma => kernel_rfl) (fun st_ => match st_ with | (j, fi, wa, sb, qa, qn, qc) => [(0, .slice wa_ ws.length wc), (1, .slice aa as_.length ac), (2, .I sy), (9, .P db2 0), (10, .I ((nn : Nat) : Int)), (14, .I sz), (16, .I t), (17, .slice a83 (secL xg).length c84), (18, .I 0), (19, .bool fi), (20, .slice qa qn qc), (21, .bool wa), (22, .I j)]) (fun st_ w' => match st_ with | (j, fi, wa, sb, qa, qn, qc) => Hp w S [] ((diskM db2 (crashD D ks ns64 nb65) none 0)) [⟨stepS, 67, .slice none ((crashD D ks ns64 nb65).steps.length) 0, (crashD D ks ns64 nb65).steps⟩] [Rp SB [.slice a83 (secL xg).length c84] (secL xg), Rp (Shape.slice SB) [.slice wa_ ws.length wc] ws, Rp (Shape.slice (Shape.int .i64)) [.slice aa as_.length ac] as_, Rp SB [.slice ka ks.length kc] ks, Rp SB [.slice qa qn qc] sb] w' ∧ j ≤ nn ∧ JInv (wf ws as_) s j (t : Int) (some xg) fi wa sb) (fun st_ => match st_ with | (j, fi, wa, sb, qa, qn, qc) => nn - j) (0, false, false, (List.replicate 64 (0#8 : BitVec 8)), (some ⟨b86, 0, none⟩), 64, 64) ⟨H, Nat.zero_le _, JInv.zero (fun hh => by cases hh)⟩ (rfl) ?_
        rintro ⟨j, fi, wa, sb, qa, qn, qc⟩ w89 ⟨H, ⟨hj, hJ⟩⟩ hback88
        refine qR 3 [.c [9, 0, 1, 0, 0, 1, 0, 0, 5, 0, 1, 0, 0, 0, 1], .c [9, 0, 1, 0, 0, 1, 0, 0, 5, 0, 1, 0, 0, 1], .l [9, 0, 1, 0, 0, 1, 0, 0, 5, 0, 1, 0, 0], .b 6, .c [9, 0, 1, 0, 0, 1, 0, 0, 6], .b 5, .c [9, 0, 1, 0, 0, 2], .l [9, 0, 1, 0, 0], .b 4, .c [10]] [(0, .slice wa_ ws.length wc), (1, .slice aa as_.length ac), (2, .I sy), (9, .P db2 0), (10, .I ((nn : Nat) : Int)), (14, .I sz), (16, .I t), (17, .slice a83 (secL xg).length c84), (18, .I 0), (19, .bool fi), (20, .slice qa qn qc), (21, .bool wa), (22, .I j), (126, .bool (decide (((j : Int) : Int) < ((nn : Nat) : Int))))] ?_
        refine qD (((j : Int) : Int) < ((nn : Nat) : Int)) (fun h90 => ?_) (fun h90 => ?_)
        ·
         have hjw : j < ws.length := by omega
         have hja : j < as_.length := by omega
         refine qR 4 [.c [9, 0, 1, 0, 0, 1, 0, 0, 5, 0, 1, 0, 0, 1, 0, 0, 0], .c [9, 0, 1, 0, 0, 1, 0, 0, 5, 0, 1, 0, 0, 1, 0, 0, 1], .b 7, .c [9, 0, 1, 0, 0, 1, 0, 0, 5, 0, 1, 0, 0, 2], .l [9, 0, 1, 0, 0, 1, 0, 0, 5, 0, 1, 0, 0], .b 6, .c [9, 0, 1, 0, 0, 1, 0, 0, 6], .b 5, .c [9, 0, 1, 0, 0, 2], .l [9, 0, 1, 0, 0], .b 4, .c [10]] [(0, .slice wa_ ws.length wc), (1, .slice aa as_.length ac), (2, .I sy), (9, .P db2 0), (10, .I ((nn : Nat) : Int)), (14, .I sz), (16, .I t), (17, .slice a83 (secL xg).length c84), (18, .I 0), (19, .bool fi), (20, .slice qa qn qc), (21, .bool wa), (22, .I j)] ?_
         refine qG (sq 0 2) ?_
         refine RW.makeW Sb (κ := .seq) (d := some 129) (r := (sq 1 2)) (T := 24) (e := 5) (by_ := 1) (v0 := .int .u8 0) (0#8 : BitVec 8) (kl := .i64) (kc := .i64) (lv := 64) (cv := 64) (by as_aux_lemma => kernel_rfl) (nofun) (by as_aux_lemma => kernel_rfl) rfl H 64 64 (by omega) (by omega) (by omega) (by omega) (by omega) (fun _ _ => rfl) ?_
         intro b91 w92 H
         have H : Hp w S [] ((diskM db2 (crashD D ks ns64 nb65) none 0)) [⟨Sb, 5, .slice (some ⟨b91, 0, none⟩) 64 64, (List.replicate 64 (0#8 : BitVec 8))⟩, ⟨stepS, 67, .slice none ((crashD D ks ns64 nb65).steps.length) 0, (crashD D ks ns64 nb65).steps⟩] [Rp SB [.slice a83 (secL xg).length c84] (secL xg), Rp (Shape.slice SB) [.slice wa_ ws.length wc] ws, Rp (Shape.slice (Shape.int .i64)) [.slice aa as_.length ac] as_, Rp SB [.slice ka ks.length kc] ks, Rp SB [.slice qa qn qc] sb] _ := H
         refine qF 1 [(0, .slice wa_ ws.length wc), (1, .slice aa as_.length ac), (2, .I sy), (9, .P db2 0), (10, .I ((nn : Nat) : Int)), (14, .I sz), (16, .I t), (17, .slice a83 (secL xg).length c84), (18, .I 0), (19, .bool fi), (20, .slice qa qn qc), (21, .bool wa), (22, .I j), (23, .slice (some ⟨b91, 0, none⟩) 64 64)] ?_
         refine qR 4 [.c [9, 0, 1, 0, 0, 1, 0, 0, 5, 0, 1, 0, 0, 1, 0, 0, 1, 0, 1, 0], .b 8, .c [9, 0, 1, 0, 0, 1, 0, 0, 5, 0, 1, 0, 0, 1, 0, 0, 2], .b 7, .c [9, 0, 1, 0, 0, 1, 0, 0, 5, 0, 1, 0, 0, 2], .l [9, 0, 1, 0, 0, 1, 0, 0, 5, 0, 1, 0, 0], .b 6, .c [9, 0, 1, 0, 0, 1, 0, 0, 6], .b 5, .c [9, 0, 1, 0, 0, 2], .l [9, 0, 1, 0, 0], .b 4, .c [10]] [(0, .slice wa_ ws.length wc), (1, .slice aa as_.length ac), (2, .I sy), (9, .P db2 0), (10, .I ((nn : Nat) : Int)), (14, .I sz), (16, .I t), (17, .slice a83 (secL xg).length c84), (18, .I 0), (19, .bool fi), (20, .slice qa qn qc), (21, .bool wa), (22, .I j), (23, .slice (some ⟨b91, 0, none⟩) 64 64), (24, .I 0)] ?_
         rw [padTo_zero ws[j]] at H
         have H : Hp w S [] ((diskM db2 (crashD D ks ns64 nb65) none 0)) [⟨Sb, 5, .slice (some ⟨b91, 0, none⟩) 64 64, (padTo ws[j] 0)⟩, ⟨stepS, 67, .slice none ((crashD D ks ns64 nb65).steps.length) 0, (crashD D ks ns64 nb65).steps⟩] [Rp SB [.slice a83 (secL xg).length c84] (secL xg), Rp (Shape.slice SB) [.slice wa_ ws.length wc] ws, Rp (Shape.slice (Shape.int .i64)) [.slice aa as_.length ac] as_, Rp SB [.slice ka ks.length kc] ks, Rp SB [.slice qa qn qc] sb] _ := H
         refine WK.loop (α := Nat) (b := cd Try.prog 3 [9, 0, 1, 0, 0, 1, 0, 0, 5, 0, 1, 0, 0, 1, 0, 0, 1, 0, 1, 0, 0]) (by as_aux_lemma => kernel_rfl) (fun k => [(0, .slice wa_ ws.length wc), (1, .slice aa as_.length ac), (2, .I sy), (9, .P db2 0), (10, .I ((nn : Nat) : Int)), (14, .I sz), (16, .I t), (17, .slice a83 (secL xg).length c84), (18, .I 0), (19, .bool fi), (20, .slice qa qn qc), (21, .bool wa), (22, .I j), (23, .slice (some ⟨b91, 0, none⟩) 64 64), (24, .I k)]) (fun k w' => Hp w S [] ((diskM db2 (crashD D ks ns64 nb65) none 0)) [⟨Sb, 5, .slice (some ⟨b91, 0, none⟩) 64 64, (padTo ws[j] k)⟩, ⟨stepS, 67, .slice none ((crashD D ks ns64 nb65).steps.length) 0, (crashD D ks ns64 nb65).steps⟩] [Rp SB [.slice a83 (secL xg).length c84] (secL xg), Rp (Shape.slice SB) [.slice wa_ ws.length wc] ws, Rp (Shape.slice (Shape.int .i64)) [.slice aa as_.length ac] as_, Rp SB [.slice ka ks.length kc] ks, Rp SB [.slice qa qn qc] sb] w' ∧ k ≤ 64) (fun k => 64 - k) 0 ⟨H, by omega⟩ (rfl) ?_
         rintro k w94 ⟨H, hk⟩ hback93
         refine qR 2 [.c [9, 0, 1, 0, 0, 1, 0, 0, 5, 0, 1, 0, 0, 1, 0, 0, 1, 0, 1, 0, 0, 0, 0], .c [9, 0, 1, 0, 0, 1, 0, 0, 5, 0, 1, 0, 0, 1, 0, 0, 1, 0, 1, 0, 0, 0, 1], .c [9, 0, 1, 0, 0, 1, 0, 0, 5, 0, 1, 0, 0, 1, 0, 0, 1, 0, 1, 0, 0, 1], .l [9, 0, 1, 0, 0, 1, 0, 0, 5, 0, 1, 0, 0, 1, 0, 0, 1, 0, 1, 0, 0], .b 8, .c [9, 0, 1, 0, 0, 1, 0, 0, 5, 0, 1, 0, 0, 1, 0, 0, 2], .b 7, .c [9, 0, 1, 0, 0, 1, 0, 0, 5, 0, 1, 0, 0, 2], .l [9, 0, 1, 0, 0, 1, 0, 0, 5, 0, 1, 0, 0], .b 6, .c [9, 0, 1, 0, 0, 1, 0, 0, 6], .b 5, .c [9, 0, 1, 0, 0, 2], .l [9, 0, 1, 0, 0], .b 4, .c [10]] [(0, .slice wa_ ws.length wc), (1, .slice aa as_.length ac), (2, .I sy), (9, .P db2 0), (10, .I ((nn : Nat) : Int)), (14, .I sz), (16, .I t), (17, .slice a83 (secL xg).length c84), (18, .I 0), (19, .bool fi), (20, .slice qa qn qc), (21, .bool wa), (22, .I j), (23, .slice (some ⟨b91, 0, none⟩) 64 64), (24, .I k)] ?_
         refine WK.join (fun b_ : Bool => b_ = decide ((k : Int) < 64 ∧ (k : Int) < ((ws[j].length : Nat) : Int))) (fun b_ => [(0, .slice wa_ ws.length wc), (1, .slice aa as_.length ac), (2, .I sy), (9, .P db2 0), (10, .I ((nn : Nat) : Int)), (14, .I sz), (16, .I t), (17, .slice a83 (secL xg).length c84), (18, .I 0), (19, .bool fi), (20, .slice qa qn qc), (21, .bool wa), (22, .I j), (23, .slice (some ⟨b91, 0, none⟩) 64 64), (24, .I k), (140, .bool b_)]) [Cq Try.prog 3 [9, 0, 1, 0, 0, 1, 0, 0, 5, 0, 1, 0, 0, 1, 0, 0, 1, 0, 1, 0, 0, 0, 1], Cq Try.prog 3 [9, 0, 1, 0, 0, 1, 0, 0, 5, 0, 1, 0, 0, 1, 0, 0, 1, 0, 1, 0, 0, 1], Lq Try.prog 3 [9, 0, 1, 0, 0, 1, 0, 0, 5, 0, 1, 0, 0, 1, 0, 0, 1, 0, 1, 0, 0], .inBlock 8, Cq Try.prog 3 [9, 0, 1, 0, 0, 1, 0, 0, 5, 0, 1, 0, 0, 1, 0, 0, 2], .inBlock 7, Cq Try.prog 3 [9, 0, 1, 0, 0, 1, 0, 0, 5, 0, 1, 0, 0, 2], Lq Try.prog 3 [9, 0, 1, 0, 0, 1, 0, 0, 5, 0, 1, 0, 0], .inBlock 6, Cq Try.prog 3 [9, 0, 1, 0, 0, 1, 0, 0, 6], .inBlock 5, Cq Try.prog 3 [9, 0, 1, 0, 0, 2], Lq Try.prog 3 [9, 0, 1, 0, 0], .inBlock 4, Cq Try.prog 3 [10]] (fun hJ95 => ?_) (fun bj96 hbj97 => ?_)
         ·
          refine qG (sq 0 11) ?_
          refine qP 3 (sq 3 11) [(0, .slice wa_ ws.length wc), (1, .slice aa as_.length ac), (2, .I sy), (9, .P db2 0), (10, .I ((nn : Nat) : Int)), (14, .I sz), (16, .I t), (17, .slice a83 (secL xg).length c84), (18, .I 0), (19, .bool fi), (20, .slice qa qn qc), (21, .bool wa), (22, .I j), (23, .slice (some ⟨b91, 0, none⟩) 64 64), (24, .I k), (132, .bool (decide (((k : Int) : Int) < 64)))] ?_
          refine tD (fun b_ => [(0, .slice wa_ ws.length wc), (1, .slice aa as_.length ac), (2, .I sy), (9, .P db2 0), (10, .I ((nn : Nat) : Int)), (14, .I sz), (16, .I t), (17, .slice a83 (secL xg).length c84), (18, .I 0), (19, .bool fi), (20, .slice qa qn qc), (21, .bool wa), (22, .I j), (23, .slice (some ⟨b91, 0, none⟩) 64 64), (24, .I k), (132, .bool b_)]) (((k : Int) : Int) < 64) (fun h98 => ?_) (fun h98 => ?_)
          ·
           refine qP 3 (sq 6 11) [(0, .slice wa_ ws.length wc), (1, .slice aa as_.length ac), (2, .I sy), (9, .P db2 0), (10, .I ((nn : Nat) : Int)), (14, .I sz), (16, .I t), (17, .slice a83 (secL xg).length c84), (18, .I 0), (19, .bool fi), (20, .slice qa qn qc), (21, .bool wa), (22, .I j), (23, .slice (some ⟨b91, 0, none⟩) 64 64), (24, .I k), (132, .bool true), (133, .I k), (134, .slice wa_ ws.length wc), (135, .I j)] ?_
           have hx99 : j < ws.length := by omega
           refine qX .seq 136 (sq 7 11) 22 24 (j : Int) SB (ws[j]) H 1 rfl j (by omega) (List.getElem?_eq_getElem hx99) ?_
           intro b100 o101 es102 hr103 H
           obtain ⟨a104, k105, rfl⟩ := Shape.slice_form' hr103
           have H := H.add (F := Rp SB [.slice a104 (ws[j]).length k105] (ws[j])) hr103
           refine qL .seq 137 (sq 8 11) 24 b100 o101 0 (.slice a104 (ws[j]).length k105) (H.fc 1 rfl) ?_
           refine qF 3 [(0, .slice wa_ ws.length wc), (1, .slice aa as_.length ac), (2, .I sy), (9, .P db2 0), (10, .I ((nn : Nat) : Int)), (14, .I sz), (16, .I t), (17, .slice a83 (secL xg).length c84), (18, .I 0), (19, .bool fi), (20, .slice qa qn qc), (21, .bool wa), (22, .I j), (23, .slice (some ⟨b91, 0, none⟩) 64 64), (24, .I k), (140, .bool (decide (((k : Int) : Int) < (((ws[j]).length : Nat) : Int))))] ?_
           exact hJ95 (decide (((k : Int) : Int) < (((ws[j]).length : Nat) : Int))) (decide_eq_decide.2 (by constructor <;> intro _ <;> omega))
          ·
           refine qF 8 [(0, .slice wa_ ws.length wc), (1, .slice aa as_.length ac), (2, .I sy), (9, .P db2 0), (10, .I ((nn : Nat) : Int)), (14, .I sz), (16, .I t), (17, .slice a83 (secL xg).length c84), (18, .I 0), (19, .bool fi), (20, .slice qa qn qc), (21, .bool wa), (22, .I j), (23, .slice (some ⟨b91, 0, none⟩) 64 64), (24, .I k), (140, .bool false)] ?_
           exact hJ95 false ((decide_eq_false (by omega)).symm)
         ·
          refine qC bj96 (fun h106 => ?_) (fun h106 => ?_)
          ·
           rw [hbj97] at h106
           replace h106 := of_decide_eq_true h106
           refine qR 3 [.c [9, 0, 1, 0, 0, 1, 0, 0, 5, 0, 1, 0, 0, 1, 0, 0, 1, 0, 1, 0, 0, 1, 0, 0], .b 9, .c [9, 0, 1, 0, 0, 1, 0, 0, 5, 0, 1, 0, 0, 1, 0, 0, 1, 0, 1, 0, 0, 2], .l [9, 0, 1, 0, 0, 1, 0, 0, 5, 0, 1, 0, 0, 1, 0, 0, 1, 0, 1, 0, 0], .b 8, .c [9, 0, 1, 0, 0, 1, 0, 0, 5, 0, 1, 0, 0, 1, 0, 0, 2], .b 7, .c [9, 0, 1, 0, 0, 1, 0, 0, 5, 0, 1, 0, 0, 2], .l [9, 0, 1, 0, 0, 1, 0, 0, 5, 0, 1, 0, 0], .b 6, .c [9, 0, 1, 0, 0, 1, 0, 0, 6], .b 5, .c [9, 0, 1, 0, 0, 2], .l [9, 0, 1, 0, 0], .b 4, .c [10]] [(0, .slice wa_ ws.length wc), (1, .slice aa as_.length ac), (2, .I sy), (9, .P db2 0), (10, .I ((nn : Nat) : Int)), (14, .I sz), (16, .I t), (17, .slice a83 (secL xg).length c84), (18, .I 0), (19, .bool fi), (20, .slice qa qn qc), (21, .bool wa), (22, .I j), (23, .slice (some ⟨b91, 0, none⟩) 64 64), (24, .I k)] ?_
           refine qG (sq 0 11) ?_
           refine qP 4 (sq 4 11) [(0, .slice wa_ ws.length wc), (1, .slice aa as_.length ac), (2, .I sy), (9, .P db2 0), (10, .I ((nn : Nat) : Int)), (14, .I sz), (16, .I t), (17, .slice a83 (secL xg).length c84), (18, .I 0), (19, .bool fi), (20, .slice qa qn qc), (21, .bool wa), (22, .I j), (23, .slice (some ⟨b91, 0, none⟩) 64 64), (24, .I k), (143, .slice (some ⟨b91, 0, none⟩) 64 64), (144, .I k), (145, .slice wa_ ws.length wc), (146, .I j)] ?_
           have hx107 : j < ws.length := by omega
           refine qX .seq 147 (sq 5 11) 22 24 (j : Int) SB (ws[j]) H 1 rfl j (by omega) (List.getElem?_eq_getElem hx107) ?_
           intro b108 o109 es110 hr111 H
           obtain ⟨a112, k113, rfl⟩ := Shape.slice_form' hr111
           have H := H.add (F := Rp SB [.slice a112 (ws[j]).length k113] (ws[j])) hr111
           refine qL .seq 148 (sq 6 11) 24 b108 o109 0 (.slice a112 (ws[j]).length k113) (H.fc 1 rfl) ?_
           refine qP 1 (sq 7 11) [(0, .slice wa_ ws.length wc), (1, .slice aa as_.length ac), (2, .I sy), (9, .P db2 0), (10, .I ((nn : Nat) : Int)), (14, .I sz), (16, .I t), (17, .slice a83 (secL xg).length c84), (18, .I 0), (19, .bool fi), (20, .slice qa qn qc), (21, .bool wa), (22, .I j), (23, .slice (some ⟨b91, 0, none⟩) 64 64), (24, .I k), (143, .slice (some ⟨b91, 0, none⟩) 64 64), (144, .I k), (148, .slice a112 (ws[j]).length k113), (149, .I k)] ?_
           have hx114 : k < (ws[j]).length := by omega
           refine qX .seq 150 (sq 8 11) 24 5 (k : Int) Sb ((ws[j])[k]) H 0 rfl k (by omega) (List.getElem?_eq_getElem hx114) ?_
           intro b115 o116 es117 hr118 H
           obtain rfl := hr118
           refine qL .seq 151 (sq 9 11) 5 b115 o116 0 (.int .u8 ((((ws[j])[k]).toNat : Nat) : Int)) (H.fc 0 rfl) ?_
           have hn120 : 64 = (padTo ws[j] k).length := by rw [padTo_len]
           have hx119 : k < (padTo ws[j] k).length := by rw [padTo_len]; omega
           refine RW.indexW (κ := .seq) (d := some 152) (r := (sq 10 11)) (T := 24) (e := 5) (m := 1) (ik := .i64) (ix := (k : Int)) (sh := Sb) (xs := (padTo ws[j] k)) (a := (some ⟨b91, 0, none⟩)) (len := 64) (cap := 64) (by as_aux_lemma => kernel_rfl) (by as_aux_lemma => kernel_rfl) rfl H k (by omega) hx119 hn120 ?_
           intro b121 es122 ha123 hcell124 hr125
           obtain rfl := hr125
           refine RW.storeW (d := none) (r := (sq 11 11)) (e := 5) (m := 1) (b := b121) (k := k) (v := .int .u8 ((((ws[j])[k]).toNat : Nat) : Int)) (by as_aux_lemma => kernel_rfl) rfl (by as_aux_lemma => kernel_rfl) H ha123 hx119 hn120 ((ws[j])[k]) Shape.bv_mk ?_
           intro w126 H
           have H := H.reW (ys := (padTo ws[j] (k + 1))) (padTo_step (by omega))
           refine qF 0 [(0, .slice wa_ ws.length wc), (1, .slice aa as_.length ac), (2, .I sy), (9, .P db2 0), (10, .I ((nn : Nat) : Int)), (14, .I sz), (16, .I t), (17, .slice a83 (secL xg).length c84), (18, .I 0), (19, .bool fi), (20, .slice qa qn qc), (21, .bool wa), (22, .I j), (23, .slice (some ⟨b91, 0, none⟩) 64 64), (24, .I k)] ?_
           refine qR 1 [.c [9, 0, 1, 0, 0, 1, 0, 0, 5, 0, 1, 0, 0, 1, 0, 0, 1, 0, 1, 0, 0, 2], .l [9, 0, 1, 0, 0, 1, 0, 0, 5, 0, 1, 0, 0, 1, 0, 0, 1, 0, 1, 0, 0], .b 8, .c [9, 0, 1, 0, 0, 1, 0, 0, 5, 0, 1, 0, 0, 1, 0, 0, 2], .b 7, .c [9, 0, 1, 0, 0, 1, 0, 0, 5, 0, 1, 0, 0, 2], .l [9, 0, 1, 0, 0, 1, 0, 0, 5, 0, 1, 0, 0], .b 6, .c [9, 0, 1, 0, 0, 1, 0, 0, 6], .b 5, .c [9, 0, 1, 0, 0, 2], .l [9, 0, 1, 0, 0], .b 4, .c [10]] [(0, .slice wa_ ws.length wc), (1, .slice aa as_.length ac), (2, .I sy), (9, .P db2 0), (10, .I ((nn : Nat) : Int)), (14, .I sz), (16, .I t), (17, .slice a83 (secL xg).length c84), (18, .I 0), (19, .bool fi), (20, .slice qa qn qc), (21, .bool wa), (22, .I j), (23, .slice (some ⟨b91, 0, none⟩) 64 64), (24, .I k)] ?_
           refine qG (sq 0 3) ?_
           refine qP 1 (sq 1 3) [(0, .slice wa_ ws.length wc), (1, .slice aa as_.length ac), (2, .I sy), (9, .P db2 0), (10, .I ((nn : Nat) : Int)), (14, .I sz), (16, .I t), (17, .slice a83 (secL xg).length c84), (18, .I 0), (19, .bool fi), (20, .slice qa qn qc), (21, .bool wa), (22, .I j), (23, .slice (some ⟨b91, 0, none⟩) 64 64), (24, .I k), (141, .I k)] ?_
           refine qI .seq 142 (sq 2 3) ((k : Int) + 1) ?_
           refine qF 1 [(0, .slice wa_ ws.length wc), (1, .slice aa as_.length ac), (2, .I sy), (9, .P db2 0), (10, .I ((nn : Nat) : Int)), (14, .I sz), (16, .I t), (17, .slice a83 (secL xg).length c84), (18, .I 0), (19, .bool fi), (20, .slice qa qn qc), (21, .bool wa), (22, .I j), (23, .slice (some ⟨b91, 0, none⟩) 64 64), (24, .I ((k : Int) + 1))] ?_
           have H := H.pick [3, 4, 5, 6, 7] rfl
           exact WK.back (hback93 (k + 1) _ ⟨H, by omega⟩ (by first | omega | (simp only []; omega))) (by as_aux_lemma => kernel_rfl)
          ·
           rw [hbj97] at h106
           replace h106 := of_decide_eq_false h106
           rw [padTo_end (l := ws[j]) (k := k) (by omega)] at H
           have H : Hp w S [] ((diskM db2 (crashD D ks ns64 nb65) none 0)) [⟨Sb, 5, .slice (some ⟨b91, 0, none⟩) 64 64, (padTo ws[j] 64)⟩, ⟨stepS, 67, .slice none ((crashD D ks ns64 nb65).steps.length) 0, (crashD D ks ns64 nb65).steps⟩] [Rp SB [.slice a83 (secL xg).length c84] (secL xg), Rp (Shape.slice SB) [.slice wa_ ws.length wc] ws, Rp (Shape.slice (Shape.int .i64)) [.slice aa as_.length ac] as_, Rp SB [.slice ka ks.length kc] ks, Rp SB [.slice qa qn qc] sb] _ := H
           refine qR 3 [.c [9, 0, 1, 0, 0, 1, 0, 0, 5, 0, 1, 0, 0, 1, 0, 0, 2, 0, 0], .c [9, 0, 1, 0, 0, 1, 0, 0, 5, 0, 1, 0, 0, 1, 0, 0, 2, 0, 1], .c [9, 0, 1, 0, 0, 1, 0, 0, 5, 0, 1, 0, 0, 1, 0, 0, 3], .b 7, .c [9, 0, 1, 0, 0, 1, 0, 0, 5, 0, 1, 0, 0, 2], .l [9, 0, 1, 0, 0, 1, 0, 0, 5, 0, 1, 0, 0], .b 6, .c [9, 0, 1, 0, 0, 1, 0, 0, 6], .b 5, .c [9, 0, 1, 0, 0, 2], .l [9, 0, 1, 0, 0], .b 4, .c [10]] [(0, .slice wa_ ws.length wc), (1, .slice aa as_.length ac), (2, .I sy), (9, .P db2 0), (10, .I ((nn : Nat) : Int)), (14, .I sz), (16, .I t), (17, .slice a83 (secL xg).length c84), (18, .I 0), (19, .bool fi), (20, .slice qa qn qc), (21, .bool wa), (22, .I j), (23, .slice (some ⟨b91, 0, none⟩) 64 64)] ?_
           refine WK.join (fun b_ : Bool => b_ = decide ((as_[j] % 8 = (t : Int)) ∧ ((j : Int) ≤ sy))) (fun b_ => [(0, .slice wa_ ws.length wc), (1, .slice aa as_.length ac), (2, .I sy), (9, .P db2 0), (10, .I ((nn : Nat) : Int)), (14, .I sz), (16, .I t), (17, .slice a83 (secL xg).length c84), (18, .I 0), (19, .bool fi), (20, .slice qa qn qc), (21, .bool wa), (22, .I j), (23, .slice (some ⟨b91, 0, none⟩) 64 64), (164, .bool b_)]) [Cq Try.prog 3 [9, 0, 1, 0, 0, 1, 0, 0, 5, 0, 1, 0, 0, 1, 0, 0, 2, 0, 1], Cq Try.prog 3 [9, 0, 1, 0, 0, 1, 0, 0, 5, 0, 1, 0, 0, 1, 0, 0, 3], .inBlock 7, Cq Try.prog 3 [9, 0, 1, 0, 0, 1, 0, 0, 5, 0, 1, 0, 0, 2], Lq Try.prog 3 [9, 0, 1, 0, 0, 1, 0, 0, 5, 0, 1, 0, 0], .inBlock 6, Cq Try.prog 3 [9, 0, 1, 0, 0, 1, 0, 0, 6], .inBlock 5, Cq Try.prog 3 [9, 0, 1, 0, 0, 2], Lq Try.prog 3 [9, 0, 1, 0, 0], .inBlock 4, Cq Try.prog 3 [10]] (fun hJ127 => ?_) (fun bj128 hbj129 => ?_)
           ·
            refine qG (sq 0 12) ?_
            refine qP 2 (sq 2 12) [(0, .slice wa_ ws.length wc), (1, .slice aa as_.length ac), (2, .I sy), (9, .P db2 0), (10, .I ((nn : Nat) : Int)), (14, .I sz), (16, .I t), (17, .slice a83 (secL xg).length c84), (18, .I 0), (19, .bool fi), (20, .slice qa qn qc), (21, .bool wa), (22, .I j), (23, .slice (some ⟨b91, 0, none⟩) 64 64), (153, .slice aa as_.length ac), (154, .I j)] ?_
            have hx130 : j < as_.length := by omega
            refine qX .seq 155 (sq 3 12) 23 3 (j : Int) (Shape.int .i64) (as_[j]) H 2 rfl j (by omega) (List.getElem?_eq_getElem hx130) ?_
            intro b131 o132 es133 hr134 H
            have hb135 := Shape.i64_bd hr134
            obtain ⟨rfl, -⟩ := hr134
            refine qL .seq 156 (sq 4 12) 3 b131 o132 0 (.I (as_[j])) (H.fc 0 rfl) ?_
            refine RW.pv (κ := .seq) (d := some 157) (r := (sq 5 12)) (v := .I (IntKind.i64.wrap ((BitVec.ofInt 64 (as_[j]) &&& BitVec.ofInt 64 7).toNat : Nat))) (v' := .I ((as_[j]) % 8)) (by as_aux_lemma => kernel_rfl) (and_i64 (j := 3) (m := 7) (by decide) (by decide)) ?_
            refine qP 3 (sq 8 12) [(0, .slice wa_ ws.length wc), (1, .slice aa as_.length ac), (2, .I sy), (9, .P db2 0), (10, .I ((nn : Nat) : Int)), (14, .I sz), (16, .I t), (17, .slice a83 (secL xg).length c84), (18, .I 0), (19, .bool fi), (20, .slice qa qn qc), (21, .bool wa), (22, .I j), (23, .slice (some ⟨b91, 0, none⟩) 64 64), (160, .bool (((as_[j]) % 8) == (t : Int)))] ?_
            refine tE (fun b_ => [(0, .slice wa_ ws.length wc), (1, .slice aa as_.length ac), (2, .I sy), (9, .P db2 0), (10, .I ((nn : Nat) : Int)), (14, .I sz), (16, .I t), (17, .slice a83 (secL xg).length c84), (18, .I 0), (19, .bool fi), (20, .slice qa qn qc), (21, .bool wa), (22, .I j), (23, .slice (some ⟨b91, 0, none⟩) 64 64), (160, .bool b_)]) ((as_[j]) % 8) (t : Int) (fun h136 => ?_) (fun h136 => ?_)
            ·
             refine qF 4 [(0, .slice wa_ ws.length wc), (1, .slice aa as_.length ac), (2, .I sy), (9, .P db2 0), (10, .I ((nn : Nat) : Int)), (14, .I sz), (16, .I t), (17, .slice a83 (secL xg).length c84), (18, .I 0), (19, .bool fi), (20, .slice qa qn qc), (21, .bool wa), (22, .I j), (23, .slice (some ⟨b91, 0, none⟩) 64 64), (164, .bool (decide (((j : Int) : Int) ≤ sy)))] ?_
             exact hJ127 (decide (((j : Int) : Int) ≤ sy)) (decide_eq_decide.2 (by constructor <;> intro _ <;> omega))
            ·
             refine qF 4 [(0, .slice wa_ ws.length wc), (1, .slice aa as_.length ac), (2, .I sy), (9, .P db2 0), (10, .I ((nn : Nat) : Int)), (14, .I sz), (16, .I t), (17, .slice a83 (secL xg).length c84), (18, .I 0), (19, .bool fi), (20, .slice qa qn qc), (21, .bool wa), (22, .I j), (23, .slice (some ⟨b91, 0, none⟩) 64 64), (164, .bool false)] ?_
             exact hJ127 false ((decide_eq_false (by omega)).symm)
           ·
            refine qC bj128 (fun h137 => ?_) (fun h137 => ?_)
            ·
             rw [hbj129] at h137
             replace h137 := of_decide_eq_true h137
             refine qR 2 [.c [9, 0, 1, 0, 0, 1, 0, 0, 5, 0, 1, 0, 0, 1, 0, 0, 3, 0], .c [9, 0, 1, 0, 0, 1, 0, 0, 5, 0, 1, 0, 0, 1, 0, 0, 4], .b 7, .c [9, 0, 1, 0, 0, 1, 0, 0, 5, 0, 1, 0, 0, 2], .l [9, 0, 1, 0, 0, 1, 0, 0, 5, 0, 1, 0, 0], .b 6, .c [9, 0, 1, 0, 0, 1, 0, 0, 6], .b 5, .c [9, 0, 1, 0, 0, 2], .l [9, 0, 1, 0, 0], .b 4, .c [10]] [(0, .slice wa_ ws.length wc), (1, .slice aa as_.length ac), (2, .I sy), (9, .P db2 0), (10, .I ((nn : Nat) : Int)), (14, .I sz), (16, .I t), (17, .slice a83 (secL xg).length c84), (18, .I 0), (19, .bool fi), (20, .slice (some ⟨b91, 0, none⟩) 64 64), (21, .bool true), (22, .I j), (23, .slice (some ⟨b91, 0, none⟩) 64 64)] ?_
             refine WK.join (fun b_ : Bool => b_ = decide ((as_[j] % 8 = (t : Int)) ∧ ((j : Int) > sy))) (fun b_ => [(0, .slice wa_ ws.length wc), (1, .slice aa as_.length ac), (2, .I sy), (9, .P db2 0), (10, .I ((nn : Nat) : Int)), (14, .I sz), (16, .I t), (17, .slice a83 (secL xg).length c84), (18, .I 0), (19, .bool fi), (20, .slice (some ⟨b91, 0, none⟩) 64 64), (21, .bool true), (22, .I j), (23, .slice (some ⟨b91, 0, none⟩) 64 64), (177, .bool b_)]) [Cq Try.prog 3 [9, 0, 1, 0, 0, 1, 0, 0, 5, 0, 1, 0, 0, 1, 0, 0, 4], .inBlock 7, Cq Try.prog 3 [9, 0, 1, 0, 0, 1, 0, 0, 5, 0, 1, 0, 0, 2], Lq Try.prog 3 [9, 0, 1, 0, 0, 1, 0, 0, 5, 0, 1, 0, 0], .inBlock 6, Cq Try.prog 3 [9, 0, 1, 0, 0, 1, 0, 0, 6], .inBlock 5, Cq Try.prog 3 [9, 0, 1, 0, 0, 2], Lq Try.prog 3 [9, 0, 1, 0, 0], .inBlock 4, Cq Try.prog 3 [10]] (fun hJ138 => ?_) (fun bj139 hbj140 => ?_)
             ·
              refine qG (sq 0 12) ?_
              refine qP 2 (sq 2 12) [(0, .slice wa_ ws.length wc), (1, .slice aa as_.length ac), (2, .I sy), (9, .P db2 0), (10, .I ((nn : Nat) : Int)), (14, .I sz), (16, .I t), (17, .slice a83 (secL xg).length c84), (18, .I 0), (19, .bool fi), (20, .slice (some ⟨b91, 0, none⟩) 64 64), (21, .bool true), (22, .I j), (23, .slice (some ⟨b91, 0, none⟩) 64 64), (166, .slice aa as_.length ac), (167, .I j)] ?_
              have hx141 : j < as_.length := by omega
              refine qX .seq 168 (sq 3 12) 23 3 (j : Int) (Shape.int .i64) (as_[j]) H 2 rfl j (by omega) (List.getElem?_eq_getElem hx141) ?_
              intro b142 o143 es144 hr145 H
              have hb146 := Shape.i64_bd hr145
              obtain ⟨rfl, -⟩ := hr145
              refine qL .seq 169 (sq 4 12) 3 b142 o143 0 (.I (as_[j])) (H.fc 0 rfl) ?_
              refine RW.pv (κ := .seq) (d := some 170) (r := (sq 5 12)) (v := .I (IntKind.i64.wrap ((BitVec.ofInt 64 (as_[j]) &&& BitVec.ofInt 64 7).toNat : Nat))) (v' := .I ((as_[j]) % 8)) (by as_aux_lemma => kernel_rfl) (and_i64 (j := 3) (m := 7) (by decide) (by decide)) ?_
              refine qP 3 (sq 8 12) [(0, .slice wa_ ws.length wc), (1, .slice aa as_.length ac), (2, .I sy), (9, .P db2 0), (10, .I ((nn : Nat) : Int)), (14, .I sz), (16, .I t), (17, .slice a83 (secL xg).length c84), (18, .I 0), (19, .bool fi), (20, .slice (some ⟨b91, 0, none⟩) 64 64), (21, .bool true), (22, .I j), (23, .slice (some ⟨b91, 0, none⟩) 64 64), (173, .bool (((as_[j]) % 8) == (t : Int)))] ?_
              refine tE (fun b_ => [(0, .slice wa_ ws.length wc), (1, .slice aa as_.length ac), (2, .I sy), (9, .P db2 0), (10, .I ((nn : Nat) : Int)), (14, .I sz), (16, .I t), (17, .slice a83 (secL xg).length c84), (18, .I 0), (19, .bool fi), (20, .slice (some ⟨b91, 0, none⟩) 64 64), (21, .bool true), (22, .I j), (23, .slice (some ⟨b91, 0, none⟩) 64 64), (173, .bool b_)]) ((as_[j]) % 8) (t : Int) (fun h147 => ?_) (fun h147 => ?_)
              ·
               refine qF 4 [(0, .slice wa_ ws.length wc), (1, .slice aa as_.length ac), (2, .I sy), (9, .P db2 0), (10, .I ((nn : Nat) : Int)), (14, .I sz), (16, .I t), (17, .slice a83 (secL xg).length c84), (18, .I 0), (19, .bool fi), (20, .slice (some ⟨b91, 0, none⟩) 64 64), (21, .bool true), (22, .I j), (23, .slice (some ⟨b91, 0, none⟩) 64 64), (177, .bool (decide (((j : Int) : Int) > sy)))] ?_
               exact hJ138 (decide (((j : Int) : Int) > sy)) (decide_eq_decide.2 (by constructor <;> intro _ <;> omega))
              ·
               refine qF 4 [(0, .slice wa_ ws.length wc), (1, .slice aa as_.length ac), (2, .I sy), (9, .P db2 0), (10, .I ((nn : Nat) : Int)), (14, .I sz), (16, .I t), (17, .slice a83 (secL xg).length c84), (18, .I 0), (19, .bool fi), (20, .slice (some ⟨b91, 0, none⟩) 64 64), (21, .bool true), (22, .I j), (23, .slice (some ⟨b91, 0, none⟩) 64 64), (177, .bool false)] ?_
               exact hJ138 false ((decide_eq_false (by omega)).symm)
             ·
              refine qC bj139 (fun h148 => ?_) (fun h148 => ?_)
              ·
               rw [hbj140] at h148
               replace h148 := of_decide_eq_true h148
               omega
              ·
               rw [hbj140] at h148
               replace h148 := of_decide_eq_false h148
               refine qR 2 [.c [9, 0, 1, 0, 0, 1, 0, 0, 5, 0, 1, 0, 0, 2], .l [9, 0, 1, 0, 0, 1, 0, 0, 5, 0, 1, 0, 0], .b 6, .c [9, 0, 1, 0, 0, 1, 0, 0, 6], .b 5, .c [9, 0, 1, 0, 0, 2], .l [9, 0, 1, 0, 0], .b 4, .c [10]] [(0, .slice wa_ ws.length wc), (1, .slice aa as_.length ac), (2, .I sy), (9, .P db2 0), (10, .I ((nn : Nat) : Int)), (14, .I sz), (16, .I t), (17, .slice a83 (secL xg).length c84), (18, .I 0), (19, .bool fi), (20, .slice (some ⟨b91, 0, none⟩) 64 64), (21, .bool true), (22, .I j)] ?_
               refine qG (sq 0 3) ?_
               refine qP 1 (sq 1 3) [(0, .slice wa_ ws.length wc), (1, .slice aa as_.length ac), (2, .I sy), (9, .P db2 0), (10, .I ((nn : Nat) : Int)), (14, .I sz), (16, .I t), (17, .slice a83 (secL xg).length c84), (18, .I 0), (19, .bool fi), (20, .slice (some ⟨b91, 0, none⟩) 64 64), (21, .bool true), (22, .I j), (127, .I j)] ?_
               refine qI .seq 128 (sq 2 3) ((j : Int) + 1) ?_
               refine qF 1 [(0, .slice wa_ ws.length wc), (1, .slice aa as_.length ac), (2, .I sy), (9, .P db2 0), (10, .I ((nn : Nat) : Int)), (14, .I sz), (16, .I t), (17, .slice a83 (secL xg).length c84), (18, .I 0), (19, .bool fi), (20, .slice (some ⟨b91, 0, none⟩) 64 64), (21, .bool true), (22, .I ((j : Int) + 1))] ?_
               have H : Hp w S [] ((diskM db2 (crashD D ks ns64 nb65) none 0)) [⟨stepS, 67, .slice none ((crashD D ks ns64 nb65).steps.length) 0, (crashD D ks ns64 nb65).steps⟩] [Rp SB [.slice (some ⟨b91, 0, none⟩) 64 64] (padTo ws[j] 64), Rp SB [.slice a83 (secL xg).length c84] (secL xg), Rp (Shape.slice SB) [.slice wa_ ws.length wc] ws, Rp (Shape.slice (Shape.int .i64)) [.slice aa as_.length ac] as_, Rp SB [.slice ka ks.length kc] ks, Rp SB [.slice qa qn qc] sb] _ := H.freezeW 0 rfl
               have hJ2 := hJ.safe (by omega) (by rw [wf_at hjw hja]; omega) (padTo_len ws[j] 64) (by rw [wf_at hjw hja])
               have H := H.pick [1, 2, 3, 4, 0] rfl
               exact WK.back (hback88 (j + 1, fi, true, (padTo ws[j] 64), (some ⟨b91, 0, none⟩), 64, 64) _ ⟨H, by omega, hJ2⟩ (by first | omega | (simp only []; omega))) (by as_aux_lemma => kernel_rfl)
            ·
             rw [hbj129] at h137
             replace h137 := of_decide_eq_false h137
             refine qR 2 [.c [9, 0, 1, 0, 0, 1, 0, 0, 5, 0, 1, 0, 0, 1, 0, 0, 3, 0], .c [9, 0, 1, 0, 0, 1, 0, 0, 5, 0, 1, 0, 0, 1, 0, 0, 4], .b 7, .c [9, 0, 1, 0, 0, 1, 0, 0, 5, 0, 1, 0, 0, 2], .l [9, 0, 1, 0, 0, 1, 0, 0, 5, 0, 1, 0, 0], .b 6, .c [9, 0, 1, 0, 0, 1, 0, 0, 6], .b 5, .c [9, 0, 1, 0, 0, 2], .l [9, 0, 1, 0, 0], .b 4, .c [10]] [(0, .slice wa_ ws.length wc), (1, .slice aa as_.length ac), (2, .I sy), (9, .P db2 0), (10, .I ((nn : Nat) : Int)), (14, .I sz), (16, .I t), (17, .slice a83 (secL xg).length c84), (18, .I 0), (19, .bool fi), (20, .slice qa qn qc), (21, .bool wa), (22, .I j), (23, .slice (some ⟨b91, 0, none⟩) 64 64)] ?_
             refine WK.join (fun b_ : Bool => b_ = decide ((as_[j] % 8 = (t : Int)) ∧ ((j : Int) > sy))) (fun b_ => [(0, .slice wa_ ws.length wc), (1, .slice aa as_.length ac), (2, .I sy), (9, .P db2 0), (10, .I ((nn : Nat) : Int)), (14, .I sz), (16, .I t), (17, .slice a83 (secL xg).length c84), (18, .I 0), (19, .bool fi), (20, .slice qa qn qc), (21, .bool wa), (22, .I j), (23, .slice (some ⟨b91, 0, none⟩) 64 64), (177, .bool b_)]) [Cq Try.prog 3 [9, 0, 1, 0, 0, 1, 0, 0, 5, 0, 1, 0, 0, 1, 0, 0, 4], .inBlock 7, Cq Try.prog 3 [9, 0, 1, 0, 0, 1, 0, 0, 5, 0, 1, 0, 0, 2], Lq Try.prog 3 [9, 0, 1, 0, 0, 1, 0, 0, 5, 0, 1, 0, 0], .inBlock 6, Cq Try.prog 3 [9, 0, 1, 0, 0, 1, 0, 0, 6], .inBlock 5, Cq Try.prog 3 [9, 0, 1, 0, 0, 2], Lq Try.prog 3 [9, 0, 1, 0, 0], .inBlock 4, Cq Try.prog 3 [10]] (fun hJ149 => ?_) (fun bj150 hbj151 => ?_)
             ·
              refine qG (sq 0 12) ?_
              refine qP 2 (sq 2 12) [(0, .slice wa_ ws.length wc), (1, .slice aa as_.length ac), (2, .I sy), (9, .P db2 0), (10, .I ((nn : Nat) : Int)), (14, .I sz), (16, .I t), (17, .slice a83 (secL xg).length c84), (18, .I 0), (19, .bool fi), (20, .slice qa qn qc), (21, .bool wa), (22, .I j), (23, .slice (some ⟨b91, 0, none⟩) 64 64), (166, .slice aa as_.length ac), (167, .I j)] ?_
              have hx152 : j < as_.length := by omega
              refine qX .seq 168 (sq 3 12) 23 3 (j : Int) (Shape.int .i64) (as_[j]) H 2 rfl j (by omega) (List.getElem?_eq_getElem hx152) ?_
              intro b153 o154 es155 hr156 H
              have hb157 := Shape.i64_bd hr156
              obtain ⟨rfl, -⟩ := hr156
              refine qL .seq 169 (sq 4 12) 3 b153 o154 0 (.I (as_[j])) (H.fc 0 rfl) ?_
              refine RW.pv (κ := .seq) (d := some 170) (r := (sq 5 12)) (v := .I (IntKind.i64.wrap ((BitVec.ofInt 64 (as_[j]) &&& BitVec.ofInt 64 7).toNat : Nat))) (v' := .I ((as_[j]) % 8)) (by as_aux_lemma => kernel_rfl) (and_i64 (j := 3) (m := 7) (by decide) (by decide)) ?_
              refine qP 3 (sq 8 12) [(0, .slice wa_ ws.length wc), (1, .slice aa as_.length ac), (2, .I sy), (9, .P db2 0), (10, .I ((nn : Nat) : Int)), (14, .I sz), (16, .I t), (17, .slice a83 (secL xg).length c84), (18, .I 0), (19, .bool fi), (20, .slice qa qn qc), (21, .bool wa), (22, .I j), (23, .slice (some ⟨b91, 0, none⟩) 64 64), (173, .bool (((as_[j]) % 8) == (t : Int)))] ?_
              refine tE (fun b_ => [(0, .slice wa_ ws.length wc), (1, .slice aa as_.length ac), (2, .I sy), (9, .P db2 0), (10, .I ((nn : Nat) : Int)), (14, .I sz), (16, .I t), (17, .slice a83 (secL xg).length c84), (18, .I 0), (19, .bool fi), (20, .slice qa qn qc), (21, .bool wa), (22, .I j), (23, .slice (some ⟨b91, 0, none⟩) 64 64), (173, .bool b_)]) ((as_[j]) % 8) (t : Int) (fun h158 => ?_) (fun h158 => ?_)
              ·
               refine qF 4 [(0, .slice wa_ ws.length wc), (1, .slice aa as_.length ac), (2, .I sy), (9, .P db2 0), (10, .I ((nn : Nat) : Int)), (14, .I sz), (16, .I t), (17, .slice a83 (secL xg).length c84), (18, .I 0), (19, .bool fi), (20, .slice qa qn qc), (21, .bool wa), (22, .I j), (23, .slice (some ⟨b91, 0, none⟩) 64 64), (177, .bool (decide (((j : Int) : Int) > sy)))] ?_
               exact hJ149 (decide (((j : Int) : Int) > sy)) (decide_eq_decide.2 (by constructor <;> intro _ <;> omega))
              ·
               refine qF 4 [(0, .slice wa_ ws.length wc), (1, .slice aa as_.length ac), (2, .I sy), (9, .P db2 0), (10, .I ((nn : Nat) : Int)), (14, .I sz), (16, .I t), (17, .slice a83 (secL xg).length c84), (18, .I 0), (19, .bool fi), (20, .slice qa qn qc), (21, .bool wa), (22, .I j), (23, .slice (some ⟨b91, 0, none⟩) 64 64), (177, .bool false)] ?_
               exact hJ149 false ((decide_eq_false (by omega)).symm)
             ·
              refine qC bj150 (fun h159 => ?_) (fun h159 => ?_)
              ·
               rw [hbj151] at h159
               replace h159 := of_decide_eq_true h159
               refine qG (sq 0 7) ?_
               refine qP 2 (sq 2 7) [(0, .slice wa_ ws.length wc), (1, .slice aa as_.length ac), (2, .I sy), (9, .P db2 0), (10, .I ((nn : Nat) : Int)), (14, .I sz), (16, .I t), (17, .slice a83 (secL xg).length c84), (18, .I 0), (19, .bool fi), (20, .slice qa qn qc), (21, .bool wa), (22, .I j), (23, .slice (some ⟨b91, 0, none⟩) 64 64), (179, .bool fi)] ?_
               refine RW.test (fun b_ => [(0, .slice wa_ ws.length wc), (1, .slice aa as_.length ac), (2, .I sy), (9, .P db2 0), (10, .I ((nn : Nat) : Int)), (14, .I sz), (16, .I t), (17, .slice a83 (secL xg).length c84), (18, .I 0), (19, .bool fi), (20, .slice qa qn qc), (21, .bool wa), (22, .I j), (23, .slice (some ⟨b91, 0, none⟩) 64 64), (179, .bool b_)]) fi (fun h160 => ?_) (fun h160 => ?_)
               ·
                refine qF 5 [(0, .slice wa_ ws.length wc), (1, .slice aa as_.length ac), (2, .I sy), (9, .P db2 0), (10, .I ((nn : Nat) : Int)), (14, .I sz), (16, .I t), (17, .slice a83 (secL xg).length c84), (18, .I 0), (19, .bool true), (20, .slice qa qn qc), (21, .bool wa), (22, .I j)] ?_
                refine qR 1 [.c [9, 0, 1, 0, 0, 1, 0, 0, 5, 0, 1, 0, 0, 2], .l [9, 0, 1, 0, 0, 1, 0, 0, 5, 0, 1, 0, 0], .b 6, .c [9, 0, 1, 0, 0, 1, 0, 0, 6], .b 5, .c [9, 0, 1, 0, 0, 2], .l [9, 0, 1, 0, 0], .b 4, .c [10]] [(0, .slice wa_ ws.length wc), (1, .slice aa as_.length ac), (2, .I sy), (9, .P db2 0), (10, .I ((nn : Nat) : Int)), (14, .I sz), (16, .I t), (17, .slice a83 (secL xg).length c84), (18, .I 0), (19, .bool true), (20, .slice qa qn qc), (21, .bool wa), (22, .I j)] ?_
                refine qG (sq 0 3) ?_
                refine qP 1 (sq 1 3) [(0, .slice wa_ ws.length wc), (1, .slice aa as_.length ac), (2, .I sy), (9, .P db2 0), (10, .I ((nn : Nat) : Int)), (14, .I sz), (16, .I t), (17, .slice a83 (secL xg).length c84), (18, .I 0), (19, .bool true), (20, .slice qa qn qc), (21, .bool wa), (22, .I j), (127, .I j)] ?_
                refine qI .seq 128 (sq 2 3) ((j : Int) + 1) ?_
                refine qF 1 [(0, .slice wa_ ws.length wc), (1, .slice aa as_.length ac), (2, .I sy), (9, .P db2 0), (10, .I ((nn : Nat) : Int)), (14, .I sz), (16, .I t), (17, .slice a83 (secL xg).length c84), (18, .I 0), (19, .bool true), (20, .slice qa qn qc), (21, .bool wa), (22, .I ((j : Int) + 1))] ?_
                have hJ2 := hJ.late (fi' := true) (by omega) (fun _ => rfl) (fun _ _ _ => rfl)
                have H := H.frontW 1 (W' := [⟨stepS, 67, .slice none ((crashD D ks ns64 nb65).steps.length) 0, (crashD D ks ns64 nb65).steps⟩, ⟨Sb, 5, .slice (some ⟨b91, 0, none⟩) 64 64, (padTo ws[j] 64)⟩]) rfl
                have H := H.drop (M' := ((diskM db2 (crashD D ks ns64 nb65) none 0))) (W' := [⟨stepS, 67, .slice none ((crashD D ks ns64 nb65).steps.length) 0, (crashD D ks ns64 nb65).steps⟩]) (by repeat (first | exact List.Sublist.refl _ | apply List.Sublist.cons_cons | apply List.Sublist.cons)) (by repeat (first | exact List.Sublist.refl _ | apply List.Sublist.cons_cons | apply List.Sublist.cons))
                exact WK.back (hback88 (j + 1, true, wa, sb, qa, qn, qc) _ ⟨H, by omega, hJ2⟩ (by first | omega | (simp only []; omega))) (by as_aux_lemma => kernel_rfl)
               ·
                refine qP 2 (sq 4 7) [(0, .slice wa_ ws.length wc), (1, .slice aa as_.length ac), (2, .I sy), (9, .P db2 0), (10, .I ((nn : Nat) : Int)), (14, .I sz), (16, .I t), (17, .slice a83 (secL xg).length c84), (18, .I 0), (19, .bool fi), (20, .slice qa qn qc), (21, .bool wa), (22, .I j), (179, .bool false), (180, .slice a83 (secL xg).length c84), (181, .slice (some ⟨b91, 0, none⟩) 64 64)] ?_
                have H : Hp w S [] ((diskM db2 (crashD D ks ns64 nb65) none 0)) [⟨stepS, 67, .slice none ((crashD D ks ns64 nb65).steps.length) 0, (crashD D ks ns64 nb65).steps⟩] [Rp SB [.slice (some ⟨b91, 0, none⟩) 64 64] (padTo ws[j] 64), Rp SB [.slice a83 (secL xg).length c84] (secL xg), Rp (Shape.slice SB) [.slice wa_ ws.length wc] ws, Rp (Shape.slice (Shape.int .i64)) [.slice aa as_.length ac] as_, Rp SB [.slice ka ks.length kc] ks, Rp SB [.slice qa qn qc] sb] _ := H.freezeW 0 rfl
                refine qK .seq (some 182) (sq 5 7) 14 #[.slice a83 (secL xg).length c84, .slice (some ⟨b91, 0, none⟩) 64 64] (same01N (S := Av S w [] (idsOf ((diskM db2 (crashD D ks ns64 nb65) none 0)) [⟨stepS, 67, .slice none ((crashD D ks ns64 nb65).steps.length) 0, (crashD D ks ns64 nb65).steps⟩])) (xs := (secL xg)) (ys := (padTo ws[j] 64)) (H.rp 1 rfl) (H.rp 0 rfl)) ?_
                rintro _ w161 hE162 rfl
                have H := H.ext hE162
                refine qF 2 [(0, .slice wa_ ws.length wc), (1, .slice aa as_.length ac), (2, .I sy), (9, .P db2 0), (10, .I ((nn : Nat) : Int)), (14, .I sz), (16, .I t), (17, .slice a83 (secL xg).length c84), (18, .I 0), (19, .bool (sameB (secL xg) (padTo ws[j] 64))), (20, .slice qa qn qc), (21, .bool wa), (22, .I j)] ?_
                refine qR 1 [.c [9, 0, 1, 0, 0, 1, 0, 0, 5, 0, 1, 0, 0, 2], .l [9, 0, 1, 0, 0, 1, 0, 0, 5, 0, 1, 0, 0], .b 6, .c [9, 0, 1, 0, 0, 1, 0, 0, 6], .b 5, .c [9, 0, 1, 0, 0, 2], .l [9, 0, 1, 0, 0], .b 4, .c [10]] [(0, .slice wa_ ws.length wc), (1, .slice aa as_.length ac), (2, .I sy), (9, .P db2 0), (10, .I ((nn : Nat) : Int)), (14, .I sz), (16, .I t), (17, .slice a83 (secL xg).length c84), (18, .I 0), (19, .bool (sameB (secL xg) (padTo ws[j] 64))), (20, .slice qa qn qc), (21, .bool wa), (22, .I j)] ?_
                refine qG (sq 0 3) ?_
                refine qP 1 (sq 1 3) [(0, .slice wa_ ws.length wc), (1, .slice aa as_.length ac), (2, .I sy), (9, .P db2 0), (10, .I ((nn : Nat) : Int)), (14, .I sz), (16, .I t), (17, .slice a83 (secL xg).length c84), (18, .I 0), (19, .bool (sameB (secL xg) (padTo ws[j] 64))), (20, .slice qa qn qc), (21, .bool wa), (22, .I j), (127, .I j)] ?_
                refine qI .seq 128 (sq 2 3) ((j : Int) + 1) ?_
                refine qF 1 [(0, .slice wa_ ws.length wc), (1, .slice aa as_.length ac), (2, .I sy), (9, .P db2 0), (10, .I ((nn : Nat) : Int)), (14, .I sz), (16, .I t), (17, .slice a83 (secL xg).length c84), (18, .I 0), (19, .bool (sameB (secL xg) (padTo ws[j] 64))), (20, .slice qa qn qc), (21, .bool wa), (22, .I ((j : Int) + 1))] ?_
                have hJ2 := hJ.late (fi' := sameB (secL xg) (padTo ws[j] 64)) (by omega) (fun hh => by rw [h160] at hh; cases hh) (fun x hx he => by cases hx; exact sameB_eq (by rw [he, wf_at hjw hja]; exact secL_same (padTo_len _ _)))
                have H := H.pick [1, 2, 3, 4, 5] rfl
                exact WK.back (hback88 (j + 1, sameB (secL xg) (padTo ws[j] 64), wa, sb, qa, qn, qc) _ ⟨H, by omega, hJ2⟩ (by first | omega | (simp only []; omega))) (by as_aux_lemma => kernel_rfl)
              ·
               rw [hbj151] at h159
               replace h159 := of_decide_eq_false h159
               refine qR 2 [.c [9, 0, 1, 0, 0, 1, 0, 0, 5, 0, 1, 0, 0, 2], .l [9, 0, 1, 0, 0, 1, 0, 0, 5, 0, 1, 0, 0], .b 6, .c [9, 0, 1, 0, 0, 1, 0, 0, 6], .b 5, .c [9, 0, 1, 0, 0, 2], .l [9, 0, 1, 0, 0], .b 4, .c [10]] [(0, .slice wa_ ws.length wc), (1, .slice aa as_.length ac), (2, .I sy), (9, .P db2 0), (10, .I ((nn : Nat) : Int)), (14, .I sz), (16, .I t), (17, .slice a83 (secL xg).length c84), (18, .I 0), (19, .bool fi), (20, .slice qa qn qc), (21, .bool wa), (22, .I j)] ?_
               refine qG (sq 0 3) ?_
               refine qP 1 (sq 1 3) [(0, .slice wa_ ws.length wc), (1, .slice aa as_.length ac), (2, .I sy), (9, .P db2 0), (10, .I ((nn : Nat) : Int)), (14, .I sz), (16, .I t), (17, .slice a83 (secL xg).length c84), (18, .I 0), (19, .bool fi), (20, .slice qa qn qc), (21, .bool wa), (22, .I j), (127, .I j)] ?_
               refine qI .seq 128 (sq 2 3) ((j : Int) + 1) ?_
               refine qF 1 [(0, .slice wa_ ws.length wc), (1, .slice aa as_.length ac), (2, .I sy), (9, .P db2 0), (10, .I ((nn : Nat) : Int)), (14, .I sz), (16, .I t), (17, .slice a83 (secL xg).length c84), (18, .I 0), (19, .bool fi), (20, .slice qa qn qc), (21, .bool wa), (22, .I ((j : Int) + 1))] ?_
               have hJ2 := hJ.other (by rw [wf_at hjw hja]; omega)
               have H := H.frontW 1 (W' := [⟨stepS, 67, .slice none ((crashD D ks ns64 nb65).steps.length) 0, (crashD D ks ns64 nb65).steps⟩, ⟨Sb, 5, .slice (some ⟨b91, 0, none⟩) 64 64, (padTo ws[j] 64)⟩]) rfl
               have H := H.drop (M' := ((diskM db2 (crashD D ks ns64 nb65) none 0))) (W' := [⟨stepS, 67, .slice none ((crashD D ks ns64 nb65).steps.length) 0, (crashD D ks ns64 nb65).steps⟩]) (by repeat (first | exact List.Sublist.refl _ | apply List.Sublist.cons_cons | apply List.Sublist.cons)) (by repeat (first | exact List.Sublist.refl _ | apply List.Sublist.cons_cons | apply List.Sublist.cons))
               exact WK.back (hback88 (j + 1, fi, wa, sb, qa, qn, qc) _ ⟨H, by omega, hJ2⟩ (by first | omega | (simp only []; omega))) (by as_aux_lemma => kernel_rfl)
        ·
         have hjn : j = nn := by omega
         have hJn := hJ
         rw [hjn] at hJn
         refine qR 2 [.c [9, 0, 1, 0, 0, 1, 0, 0, 6, 0], .c [9, 0, 1, 0, 0, 1, 0, 0, 7], .b 5, .c [9, 0, 1, 0, 0, 2], .l [9, 0, 1, 0, 0], .b 4, .c [10]] [(0, .slice wa_ ws.length wc), (1, .slice aa as_.length ac), (2, .I sy), (9, .P db2 0), (10, .I ((nn : Nat) : Int)), (14, .I sz), (16, .I t), (17, .slice a83 (secL xg).length c84), (18, .I 0), (19, .bool fi), (20, .slice qa qn qc), (21, .bool wa)] ?_
         refine qG (sq 0 19) ?_
         refine qP 13 (sq 13 19) [(0, .slice wa_ ws.length wc), (1, .slice aa as_.length ac), (2, .I sy), (9, .P db2 0), (10, .I ((nn : Nat) : Int)), (14, .I sz), (16, .I t), (17, .slice a83 (secL xg).length c84), (20, .slice qa qn qc), (189, .bool false), (196, .bool (!fi))] ?_
         refine RW.test (fun b_ => [(0, .slice wa_ ws.length wc), (1, .slice aa as_.length ac), (2, .I sy), (9, .P db2 0), (10, .I ((nn : Nat) : Int)), (14, .I sz), (16, .I t), (17, .slice a83 (secL xg).length c84), (20, .slice qa qn qc), (189, .bool false), (196, .bool b_)]) (!fi) (fun h163 => ?_) (fun h163 => ?_)
         ·
          replace h163 : (fi) = false := by revert h163; cases (fi) <;> simp
          refine qP 2 (sq 15 19) [(0, .slice wa_ ws.length wc), (1, .slice aa as_.length ac), (2, .I sy), (9, .P db2 0), (10, .I ((nn : Nat) : Int)), (14, .I sz), (16, .I t), (189, .bool false), (196, .bool true), (197, .slice a83 (secL xg).length c84), (198, .slice qa qn qc)] ?_
          refine qK .seq (some 199) (sq 16 19) 14 #[.slice a83 (secL xg).length c84, .slice qa qn qc] (same01N (S := Av S w [] (idsOf ((diskM db2 (crashD D ks ns64 nb65) none 0)) [⟨stepS, 67, .slice none ((crashD D ks ns64 nb65).steps.length) 0, (crashD D ks ns64 nb65).steps⟩])) (xs := (secL xg)) (ys := sb) (H.rp 0 rfl) (H.rp 4 rfl)) ?_
          rintro _ w164 hE165 rfl
          have H := H.ext hE165
          rw [sameB_eq (JInv.end hJn hsn hxg (hlaw _) h163)]
          refine qF 3 [(0, .slice wa_ ws.length wc), (1, .slice aa as_.length ac), (2, .I sy), (9, .P db2 0), (10, .I ((nn : Nat) : Int)), (14, .I sz), (16, .I t), (202, .bool false)] ?_
          refine qR 3 [.c [9, 0, 1, 0, 0, 2], .l [9, 0, 1, 0, 0], .b 4, .c [10]] [(0, .slice wa_ ws.length wc), (1, .slice aa as_.length ac), (2, .I sy), (9, .P db2 0), (10, .I ((nn : Nat) : Int)), (14, .I sz), (16, .I t)] ?_
          refine qG (sq 0 3) ?_
          refine qP 1 (sq 1 3) [(0, .slice wa_ ws.length wc), (1, .slice aa as_.length ac), (2, .I sy), (9, .P db2 0), (10, .I ((nn : Nat) : Int)), (14, .I sz), (16, .I t), (107, .I t)] ?_
          refine qI .seq 108 (sq 2 3) ((t : Int) + 1) ?_
          refine qF 1 [(0, .slice wa_ ws.length wc), (1, .slice aa as_.length ac), (2, .I sy), (9, .P db2 0), (10, .I ((nn : Nat) : Int)), (14, .I sz), (16, .I ((t : Int) + 1))] ?_
          have H := H.pick [1, 2, 3] rfl
          exact WK.back (hback79 (t + 1) _ ⟨H, by omega⟩ (by first | omega | (simp only []; omega))) (by as_aux_lemma => kernel_rfl)
         ·
          replace h163 : (fi) = true := by revert h163; cases (fi) <;> simp
          refine qF 6 [(0, .slice wa_ ws.length wc), (1, .slice aa as_.length ac), (2, .I sy), (9, .P db2 0), (10, .I ((nn : Nat) : Int)), (14, .I sz), (16, .I t), (202, .bool false)] ?_
          refine qR 3 [.c [9, 0, 1, 0, 0, 2], .l [9, 0, 1, 0, 0], .b 4, .c [10]] [(0, .slice wa_ ws.length wc), (1, .slice aa as_.length ac), (2, .I sy), (9, .P db2 0), (10, .I ((nn : Nat) : Int)), (14, .I sz), (16, .I t)] ?_
          refine qG (sq 0 3) ?_
          refine qP 1 (sq 1 3) [(0, .slice wa_ ws.length wc), (1, .slice aa as_.length ac), (2, .I sy), (9, .P db2 0), (10, .I ((nn : Nat) : Int)), (14, .I sz), (16, .I t), (107, .I t)] ?_
          refine qI .seq 108 (sq 2 3) ((t : Int) + 1) ?_
          refine qF 1 [(0, .slice wa_ ws.length wc), (1, .slice aa as_.length ac), (2, .I sy), (9, .P db2 0), (10, .I ((nn : Nat) : Int)), (14, .I sz), (16, .I ((t : Int) + 1))] ?_
          have H := H.pick [1, 2, 3] rfl
          exact WK.back (hback79 (t + 1) _ ⟨H, by omega⟩ (by first | omega | (simp only []; omega))) (by as_aux_lemma => kernel_rfl)
      ·
       have H := H.perms (M' := diskM db2 (crashD D ks ns64 nb65) none 0 ++ []) (W' := [⟨stepS, 67, .slice none ((crashD D ks ns64 nb65).steps.length) 0, (crashD D ks ns64 nb65).steps⟩]) (List.perm_append_comm (l₁ := diskM db2 (crashD D ks ns64 nb65) none 0) (l₂ := ([] : Heap))) (List.Perm.refl _)
       refine RW.callS (d := some 112) (r := (sq 3 8)) (g := 13) (args := #[.P db2 0, .string (⟨#[102]⟩ : ByteArray), .I t]) (by as_aux_lemma => kernel_rfl) ((dReadMiss hok4 rfl (f := ff) (by rw [hff]; exact List.mem_cons_self ..) hfn (.inr (by omega))) ((H.lend (M1 := diskM db2 (crashD D ks ns64 nb65) none 0) (W1 := [⟨stepS, 67, .slice none ((crashD D ks ns64 nb65).steps.length) 0, (crashD D ks ns64 nb65).steps⟩])).pick [] rfl)) ?_
       rintro _ w166 ⟨rfl, H'⟩
       have H := H.back (M1 := diskM db2 (crashD D ks ns64 nb65) none 0) (W1 := [⟨stepS, 67, .slice none ((crashD D ks ns64 nb65).steps.length) 0, (crashD D ks ns64 nb65).steps⟩]) H'
       have H := H.perms (M' := ((diskM db2 (crashD D ks ns64 nb65) none 0))) (W' := [⟨stepS, 67, .slice none ((crashD D ks ns64 nb65).steps.length) 0, (crashD D ks ns64 nb65).steps⟩]) ((List.perm_append_comm (l₁ := diskM db2 (crashD D ks ns64 nb65) none 0) (l₂ := ([] : Heap))).symm) (List.Perm.refl _)
       have H : Hp w S [] ((diskM db2 (crashD D ks ns64 nb65) none 0)) [⟨stepS, 67, .slice none ((crashD D ks ns64 nb65).steps.length) 0, (crashD D ks ns64 nb65).steps⟩] [Rp (Shape.slice SB) [.slice wa_ ws.length wc] ws, Rp (Shape.slice (Shape.int .i64)) [.slice aa as_.length ac] as_, Rp SB [.slice ka ks.length kc] ks] _ := H
       refine qF 5 [(0, .slice wa_ ws.length wc), (1, .slice aa as_.length ac), (2, .I sy), (9, .P db2 0), (10, .I ((nn : Nat) : Int)), (14, .I sz), (16, .I t), (17, .slice none 0 0), (18, .I 2)] ?_
       refine qR 3 [.c [9, 0, 1, 0, 0, 1, 0, 0, 1, 0, 1], .c [9, 0, 1, 0, 0, 1, 0, 0, 2], .b 5, .c [9, 0, 1, 0, 0, 2], .l [9, 0, 1, 0, 0], .b 4, .c [10]] [(0, .slice wa_ ws.length wc), (1, .slice aa as_.length ac), (2, .I sy), (9, .P db2 0), (10, .I ((nn : Nat) : Int)), (14, .I sz), (16, .I t), (17, .slice none 0 0), (18, .I 2), (120, .bool (!(false == (decide (((t : Int) : Int) < sz)))))] ?_
       refine qC (!(false == (decide (((t : Int) : Int) < sz)))) (fun h167 => ?_) (fun h167 => ?_)
       ·
        replace h167 : ((false == (decide (((t : Int) : Int) < sz)))) = false := by revert h167; cases ((false == (decide (((t : Int) : Int) < sz)))) <;> simp
        replace h167 := ne_of_beq_false h167
        exact absurd (decide_eq_false (by omega)).symm h167
       ·
        replace h167 : ((false == (decide (((t : Int) : Int) < sz)))) = true := by revert h167; cases ((false == (decide (((t : Int) : Int) < sz)))) <;> simp
        replace h167 := eq_of_beq h167
        refine qR 4 [.c [9, 0, 1, 0, 0, 1, 0, 0, 3, 0], .c [9, 0, 1, 0, 0, 1, 0, 0, 4], .b 5, .c [9, 0, 1, 0, 0, 2], .l [9, 0, 1, 0, 0], .b 4, .c [10]] [(0, .slice wa_ ws.length wc), (1, .slice aa as_.length ac), (2, .I sy), (9, .P db2 0), (10, .I ((nn : Nat) : Int)), (14, .I sz), (16, .I t), (17, .slice none 0 0), (18, .I 2), (19, .bool true)] ?_
        refine qG (sq 0 2) ?_
        refine RW.makeW Sb (κ := .seq) (d := some 123) (r := (sq 1 2)) (T := 24) (e := 5) (by_ := 1) (v0 := .int .u8 0) (0#8 : BitVec 8) (kl := .i64) (kc := .i64) (lv := 64) (cv := 64) (by as_aux_lemma => kernel_rfl) (nofun) (by as_aux_lemma => kernel_rfl) rfl H 64 64 (by omega) (by omega) (by omega) (by omega) (by omega) (fun _ _ => rfl) ?_
        intro b168 w169 H
        have H : Hp w S [] ((diskM db2 (crashD D ks ns64 nb65) none 0)) [⟨Sb, 5, .slice (some ⟨b168, 0, none⟩) 64 64, (List.replicate 64 (0#8 : BitVec 8))⟩, ⟨stepS, 67, .slice none ((crashD D ks ns64 nb65).steps.length) 0, (crashD D ks ns64 nb65).steps⟩] [Rp (Shape.slice SB) [.slice wa_ ws.length wc] ws, Rp (Shape.slice (Shape.int .i64)) [.slice aa as_.length ac] as_, Rp SB [.slice ka ks.length kc] ks] _ := H
        refine qF 1 [(0, .slice wa_ ws.length wc), (1, .slice aa as_.length ac), (2, .I sy), (9, .P db2 0), (10, .I ((nn : Nat) : Int)), (14, .I sz), (16, .I t), (17, .slice none 0 0), (18, .I 2), (19, .bool true), (20, .slice (some ⟨b168, 0, none⟩) 64 64)] ?_
        refine qR 6 [.c [9, 0, 1, 0, 0, 1, 0, 0, 5, 0, 1, 0], .b 6, .c [9, 0, 1, 0, 0, 1, 0, 0, 6], .b 5, .c [9, 0, 1, 0, 0, 2], .l [9, 0, 1, 0, 0], .b 4, .c [10]] [(0, .slice wa_ ws.length wc), (1, .slice aa as_.length ac), (2, .I sy), (9, .P db2 0), (10, .I ((nn : Nat) : Int)), (14, .I sz), (16, .I t), (17, .slice none 0 0), (18, .I 2), (19, .bool true), (20, .slice (some ⟨b168, 0, none⟩) 64 64), (21, .bool false), (22, .I 0)] ?_
        have H : Hp w S [] ((diskM db2 (crashD D ks ns64 nb65) none 0)) [⟨stepS, 67, .slice none ((crashD D ks ns64 nb65).steps.length) 0, (crashD D ks ns64 nb65).steps⟩] [Rp SB [.slice (some ⟨b168, 0, none⟩) 64 64] (List.replicate 64 (0#8 : BitVec 8)), Rp (Shape.slice SB) [.slice wa_ ws.length wc] ws, Rp (Shape.slice (Shape.int .i64)) [.slice aa as_.length ac] as_, Rp SB [.slice ka ks.length kc] ks] _ := H.freezeW 0 rfl
        have H := H.pick [1, 2, 3, 0] rfl
        refine WK.loop (α := Nat × Bool × Bool × (List (BitVec 8)) × (Option Addr) × Nat × Nat) (b := cd Try.prog 3 [9, 0, 1, 0, 0, 1, 0, 0, 5, 0, 1, 0, 0]) (by as_aux_lemma => kernel_rfl) (fun st_ => match st_ with | (j, fi, wa, sb, qa, qn, qc) => [(0, .slice wa_ ws.length wc), (1, .slice aa as_.length ac), (2, .I sy), (9, .P db2 0), (10, .I ((nn : Nat) : Int)), (14, .I sz), (16, .I t), (17, .slice none 0 0), (18, .I 2), (19, .bool fi), (20, .slice qa qn qc), (21, .bool wa), (22, .I j)]) (fun st_ w' => match st_ with | (j, fi, wa, sb, qa, qn, qc) => Hp w S [] ((diskM db2 (crashD D ks ns64 nb65) none 0)) [⟨stepS, 67, .slice none ((crashD D ks ns64 nb65).steps.length) 0, (crashD D ks ns64 nb65).steps⟩] [Rp (Shape.slice SB) [.slice wa_ ws.length wc] ws, Rp (Shape.slice (Shape.int .i64)) [.slice aa as_.length ac] as_, Rp SB [.slice ka ks.length kc] ks, Rp SB [.slice qa qn qc] sb] w' ∧ j ≤ nn ∧ JInv (wf ws as_) s j (t : Int) none fi wa sb) (fun st_ => match st_ with | (j, fi, wa, sb, qa, qn, qc) => nn - j) (0, true, false, (List.replicate 64 (0#8 : BitVec 8)), (some ⟨b168, 0, none⟩), 64, 64) ⟨H, Nat.zero_le _, JInv.zero (fun _ => rfl)⟩ (rfl) ?_
        rintro ⟨j, fi, wa, sb, qa, qn, qc⟩ w171 ⟨H, ⟨hj, hJ⟩⟩ hback170
        refine qR 3 [.c [9, 0, 1, 0, 0, 1, 0, 0, 5, 0, 1, 0, 0, 0, 1], .c [9, 0, 1, 0, 0, 1, 0, 0, 5, 0, 1, 0, 0, 1], .l [9, 0, 1, 0, 0, 1, 0, 0, 5, 0, 1, 0, 0], .b 6, .c [9, 0, 1, 0, 0, 1, 0, 0, 6], .b 5, .c [9, 0, 1, 0, 0, 2], .l [9, 0, 1, 0, 0], .b 4, .c [10]] [(0, .slice wa_ ws.length wc), (1, .slice aa as_.length ac), (2, .I sy), (9, .P db2 0), (10, .I ((nn : Nat) : Int)), (14, .I sz), (16, .I t), (17, .slice none 0 0), (18, .I 2), (19, .bool fi), (20, .slice qa qn qc), (21, .bool wa), (22, .I j), (126, .bool (decide (((j : Int) : Int) < ((nn : Nat) : Int))))] ?_
        refine qD (((j : Int) : Int) < ((nn : Nat) : Int)) (fun h172 => ?_) (fun h172 => ?_)
        ·
         have hjw : j < ws.length := by omega
         have hja : j < as_.length := by omega
         refine qR 4 [.c [9, 0, 1, 0, 0, 1, 0, 0, 5, 0, 1, 0, 0, 1, 0, 0, 0], .c [9, 0, 1, 0, 0, 1, 0, 0, 5, 0, 1, 0, 0, 1, 0, 0, 1], .b 7, .c [9, 0, 1, 0, 0, 1, 0, 0, 5, 0, 1, 0, 0, 2], .l [9, 0, 1, 0, 0, 1, 0, 0, 5, 0, 1, 0, 0], .b 6, .c [9, 0, 1, 0, 0, 1, 0, 0, 6], .b 5, .c [9, 0, 1, 0, 0, 2], .l [9, 0, 1, 0, 0], .b 4, .c [10]] [(0, .slice wa_ ws.length wc), (1, .slice aa as_.length ac), (2, .I sy), (9, .P db2 0), (10, .I ((nn : Nat) : Int)), (14, .I sz), (16, .I t), (17, .slice none 0 0), (18, .I 2), (19, .bool fi), (20, .slice qa qn qc), (21, .bool wa), (22, .I j)] ?_
         refine qG (sq 0 2) ?_
         refine RW.makeW Sb (κ := .seq) (d := some 129) (r := (sq 1 2)) (T := 24) (e := 5) (by_ := 1) (v0 := .int .u8 0) (0#8 : BitVec 8) (kl := .i64) (kc := .i64) (lv := 64) (cv := 64) (by as_aux_lemma => kernel_rfl) (nofun) (by as_aux_lemma => kernel_rfl) rfl H 64 64 (by omega) (by omega) (by omega) (by omega) (by omega) (fun _ _ => rfl) ?_
         intro b173 w174 H
         have H : Hp w S [] ((diskM db2 (crashD D ks ns64 nb65) none 0)) [⟨Sb, 5, .slice (some ⟨b173, 0, none⟩) 64 64, (List.replicate 64 (0#8 : BitVec 8))⟩, ⟨stepS, 67, .slice none ((crashD D ks ns64 nb65).steps.length) 0, (crashD D ks ns64 nb65).steps⟩] [Rp (Shape.slice SB) [.slice wa_ ws.length wc] ws, Rp (Shape.slice (Shape.int .i64)) [.slice aa as_.length ac] as_, Rp SB [.slice ka ks.length kc] ks, Rp SB [.slice qa qn qc] sb] _ := H
         refine qF 1 [(0, .slice wa_ ws.length wc), (1, .slice aa as_.length ac), (2, .I sy), (9, .P db2 0), (10, .I ((nn : Nat) : Int)), (14, .I sz), (16, .I t), (17, .slice none 0 0), (18, .I 2), (19, .bool fi), (20, .slice qa qn qc), (21, .bool wa), (22, .I j), (23, .slice (some ⟨b173, 0, none⟩) 64 64)] ?_
         refine qR 4 [.c [9, 0, 1, 0, 0, 1, 0, 0, 5, 0, 1, 0, 0, 1, 0, 0, 1, 0, 1, 0], .b 8, .c [9, 0, 1, 0, 0, 1, 0, 0, 5, 0, 1, 0, 0, 1, 0, 0, 2], .b 7, .c [9, 0, 1, 0, 0, 1, 0, 0, 5, 0, 1, 0, 0, 2], .l [9, 0, 1, 0, 0, 1, 0, 0, 5, 0, 1, 0, 0], .b 6, .c [9, 0, 1, 0, 0, 1, 0, 0, 6], .b 5, .c [9, 0, 1, 0, 0, 2], .l [9, 0, 1, 0, 0], .b 4, .c [10]] [(0, .slice wa_ ws.length wc), (1, .slice aa as_.length ac), (2, .I sy), (9, .P db2 0), (10, .I ((nn : Nat) : Int)), (14, .I sz), (16, .I t), (17, .slice none 0 0), (18, .I 2), (19, .bool fi), (20, .slice qa qn qc), (21, .bool wa), (22, .I j), (23, .slice (some ⟨b173, 0, none⟩) 64 64), (24, .I 0)] ?_
         rw [padTo_zero ws[j]] at H
         have H : Hp w S [] ((diskM db2 (crashD D ks ns64 nb65) none 0)) [⟨Sb, 5, .slice (some ⟨b173, 0, none⟩) 64 64, (padTo ws[j] 0)⟩, ⟨stepS, 67, .slice none ((crashD D ks ns64 nb65).steps.length) 0, (crashD D ks ns64 nb65).steps⟩] [Rp (Shape.slice SB) [.slice wa_ ws.length wc] ws, Rp (Shape.slice (Shape.int .i64)) [.slice aa as_.length ac] as_, Rp SB [.slice ka ks.length kc] ks, Rp SB [.slice qa qn qc] sb] _ := H
         refine WK.loop (α := Nat) (b := cd Try.prog 3 [9, 0, 1, 0, 0, 1, 0, 0, 5, 0, 1, 0, 0, 1, 0, 0, 1, 0, 1, 0, 0]) (by as_aux_lemma => kernel_rfl) (fun k => [(0, .slice wa_ ws.length wc), (1, .slice aa as_.length ac), (2, .I sy), (9, .P db2 0), (10, .I ((nn : Nat) : Int)), (14, .I sz), (16, .I t), (17, .slice none 0 0), (18, .I 2), (19, .bool fi), (20, .slice qa qn qc), (21, .bool wa), (22, .I j), (23, .slice (some ⟨b173, 0, none⟩) 64 64), (24, .I k)]) (fun k w' => Hp w S [] ((diskM db2 (crashD D ks ns64 nb65) none 0)) [⟨Sb, 5, .slice (some ⟨b173, 0, none⟩) 64 64, (padTo ws[j] k)⟩, ⟨stepS, 67, .slice none ((crashD D ks ns64 nb65).steps.length) 0, (crashD D ks ns64 nb65).steps⟩] [Rp (Shape.slice SB) [.slice wa_ ws.length wc] ws, Rp (Shape.slice (Shape.int .i64)) [.slice aa as_.length ac] as_, Rp SB [.slice ka ks.length kc] ks, Rp SB [.slice qa qn qc] sb] w' ∧ k ≤ 64) (fun k => 64 - k) 0 ⟨H, by omega⟩ (rfl) ?_
         rintro k w176 ⟨H, hk⟩ hback175
         refine qR 2 [.c [9, 0, 1, 0, 0, 1, 0, 0, 5, 0, 1, 0, 0, 1, 0, 0, 1, 0, 1, 0, 0, 0, 0], .c [9, 0, 1, 0, 0, 1, 0, 0, 5, 0, 1, 0, 0, 1, 0, 0, 1, 0, 1, 0, 0, 0, 1], .c [9, 0, 1, 0, 0, 1, 0, 0, 5, 0, 1, 0, 0, 1, 0, 0, 1, 0, 1, 0, 0, 1], .l [9, 0, 1, 0, 0, 1, 0, 0, 5, 0, 1, 0, 0, 1, 0, 0, 1, 0, 1, 0, 0], .b 8, .c [9, 0, 1, 0, 0, 1, 0, 0, 5, 0, 1, 0, 0, 1, 0, 0, 2], .b 7, .c [9, 0, 1, 0, 0, 1, 0, 0, 5, 0, 1, 0, 0, 2], .l [9, 0, 1, 0, 0, 1, 0, 0, 5, 0, 1, 0, 0], .b 6, .c [9, 0, 1, 0, 0, 1, 0, 0, 6], .b 5, .c [9, 0, 1, 0, 0, 2], .l [9, 0, 1, 0, 0], .b 4, .c [10]] [(0, .slice wa_ ws.length wc), (1, .slice aa as_.length ac), (2, .I sy), (9, .P db2 0), (10, .I ((nn : Nat) : Int)), (14, .I sz), (16, .I t), (17, .slice none 0 0), (18, .I 2), (19, .bool fi), (20, .slice qa qn qc), (21, .bool wa), (22, .I j), (23, .slice (some ⟨b173, 0, none⟩) 64 64), (24, .I k)] ?_
         refine WK.join (fun b_ : Bool => b_ = decide ((k : Int) < 64 ∧ (k : Int) < ((ws[j].length : Nat) : Int))) (fun b_ => [(0, .slice wa_ ws.length wc), (1, .slice aa as_.length ac), (2, .I sy), (9, .P db2 0), (10, .I ((nn : Nat) : Int)), (14, .I sz), (16, .I t), (17, .slice none 0 0), (18, .I 2), (19, .bool fi), (20, .slice qa qn qc), (21, .bool wa), (22, .I j), (23, .slice (some ⟨b173, 0, none⟩) 64 64), (24, .I k), (140, .bool b_)]) [Cq Try.prog 3 [9, 0, 1, 0, 0, 1, 0, 0, 5, 0, 1, 0, 0, 1, 0, 0, 1, 0, 1, 0, 0, 0, 1], Cq Try.prog 3 [9, 0, 1, 0, 0, 1, 0, 0, 5, 0, 1, 0, 0, 1, 0, 0, 1, 0, 1, 0, 0, 1], Lq Try.prog 3 [9, 0, 1, 0, 0, 1, 0, 0, 5, 0, 1, 0, 0, 1, 0, 0, 1, 0, 1, 0, 0], .inBlock 8, Cq Try.prog 3 [9, 0, 1, 0, 0, 1, 0, 0, 5, 0, 1, 0, 0, 1, 0, 0, 2], .inBlock 7, Cq Try.prog 3 [9, 0, 1, 0, 0, 1, 0, 0, 5, 0, 1, 0, 0, 2], Lq Try.prog 3 [9, 0, 1, 0, 0, 1, 0, 0, 5, 0, 1, 0, 0], .inBlock 6, Cq Try.prog 3 [9, 0, 1, 0, 0, 1, 0, 0, 6], .inBlock 5, Cq Try.prog 3 [9, 0, 1, 0, 0, 2], Lq Try.prog 3 [9, 0, 1, 0, 0], .inBlock 4, Cq Try.prog 3 [10]] (fun hJ177 => ?_) (fun bj178 hbj179 => ?_)
         ·
          refine qG (sq 0 11) ?_
          refine qP 3 (sq 3 11) [(0, .slice wa_ ws.length wc), (1, .slice aa as_.length ac), (2, .I sy), (9, .P db2 0), (10, .I ((nn : Nat) : Int)), (14, .I sz), (16, .I t), (17, .slice none 0 0), (18, .I 2), (19, .bool fi), (20, .slice qa qn qc), (21, .bool wa), (22, .I j), (23, .slice (some ⟨b173, 0, none⟩) 64 64), (24, .I k), (132, .bool (decide (((k : Int) : Int) < 64)))] ?_
          refine tD (fun b_ => [(0, .slice wa_ ws.length wc), (1, .slice aa as_.length ac), (2, .I sy), (9, .P db2 0), (10, .I ((nn : Nat) : Int)), (14, .I sz), (16, .I t), (17, .slice none 0 0), (18, .I 2), (19, .bool fi), (20, .slice qa qn qc), (21, .bool wa), (22, .I j), (23, .slice (some ⟨b173, 0, none⟩) 64 64), (24, .I k), (132, .bool b_)]) (((k : Int) : Int) < 64) (fun h180 => ?_) (fun h180 => ?_)
          ·
           refine qP 3 (sq 6 11) [(0, .slice wa_ ws.length wc), (1, .slice aa as_.length ac), (2, .I sy), (9, .P db2 0), (10, .I ((nn : Nat) : Int)), (14, .I sz), (16, .I t), (17, .slice none 0 0), (18, .I 2), (19, .bool fi), (20, .slice qa qn qc), (21, .bool wa), (22, .I j), (23, .slice (some ⟨b173, 0, none⟩) 64 64), (24, .I k), (132, .bool true), (133, .I k), (134, .slice wa_ ws.length wc), (135, .I j)] ?_
           have hx181 : j < ws.length := by omega
           refine qX .seq 136 (sq 7 11) 22 24 (j : Int) SB (ws[j]) H 0 rfl j (by omega) (List.getElem?_eq_getElem hx181) ?_
           intro b182 o183 es184 hr185 H
           obtain ⟨a186, k187, rfl⟩ := Shape.slice_form' hr185
           have H := H.add (F := Rp SB [.slice a186 (ws[j]).length k187] (ws[j])) hr185
           refine qL .seq 137 (sq 8 11) 24 b182 o183 0 (.slice a186 (ws[j]).length k187) (H.fc 1 rfl) ?_
           refine qF 3 [(0, .slice wa_ ws.length wc), (1, .slice aa as_.length ac), (2, .I sy), (9, .P db2 0), (10, .I ((nn : Nat) : Int)), (14, .I sz), (16, .I t), (17, .slice none 0 0), (18, .I 2), (19, .bool fi), (20, .slice qa qn qc), (21, .bool wa), (22, .I j), (23, .slice (some ⟨b173, 0, none⟩) 64 64), (24, .I k), (140, .bool (decide (((k : Int) : Int) < (((ws[j]).length : Nat) : Int))))] ?_
           exact hJ177 (decide (((k : Int) : Int) < (((ws[j]).length : Nat) : Int))) (decide_eq_decide.2 (by constructor <;> intro _ <;> omega))
          ·
           refine qF 8 [(0, .slice wa_ ws.length wc), (1, .slice aa as_.length ac), (2, .I sy), (9, .P db2 0), (10, .I ((nn : Nat) : Int)), (14, .I sz), (16, .I t), (17, .slice none 0 0), (18, .I 2), (19, .bool fi), (20, .slice qa qn qc), (21, .bool wa), (22, .I j), (23, .slice (some ⟨b173, 0, none⟩) 64 64), (24, .I k), (140, .bool false)] ?_
           exact hJ177 false ((decide_eq_false (by omega)).symm)
         ·
          refine qC bj178 (fun h188 => ?_) (fun h188 => ?_)
          ·
           rw [hbj179] at h188
           replace h188 := of_decide_eq_true h188
           refine qR 3 [.c [9, 0, 1, 0, 0, 1, 0, 0, 5, 0, 1, 0, 0, 1, 0, 0, 1, 0, 1, 0, 0, 1, 0, 0], .b 9, .c [9, 0, 1, 0, 0, 1, 0, 0, 5, 0, 1, 0, 0, 1, 0, 0, 1, 0, 1, 0, 0, 2], .l [9, 0, 1, 0, 0, 1, 0, 0, 5, 0, 1, 0, 0, 1, 0, 0, 1, 0, 1, 0, 0], .b 8, .c [9, 0, 1, 0, 0, 1, 0, 0, 5, 0, 1, 0, 0, 1, 0, 0, 2], .b 7, .c [9, 0, 1, 0, 0, 1, 0, 0, 5, 0, 1, 0, 0, 2], .l [9, 0, 1, 0, 0, 1, 0, 0, 5, 0, 1, 0, 0], .b 6, .c [9, 0, 1, 0, 0, 1, 0, 0, 6], .b 5, .c [9, 0, 1, 0, 0, 2], .l [9, 0, 1, 0, 0], .b 4, .c [10]] [(0, .slice wa_ ws.length wc), (1, .slice aa as_.length ac), (2, .I sy), (9, .P db2 0), (10, .I ((nn : Nat) : Int)), (14, .I sz), (16, .I t), (17, .slice none 0 0), (18, .I 2), (19, .bool fi), (20, .slice qa qn qc), (21, .bool wa), (22, .I j), (23, .slice (some ⟨b173, 0, none⟩) 64 64), (24, .I k)] ?_
           refine qG (sq 0 11) ?_
           refine qP 4 (sq 4 11) [(0, .slice wa_ ws.length wc), (1, .slice aa as_.length ac), (2, .I sy), (9, .P db2 0), (10, .I ((nn : Nat) : Int)), (14, .I sz), (16, .I t), (17, .slice none 0 0), (18, .I 2), (19, .bool fi), (20, .slice qa qn qc), (21, .bool wa), (22, .I j), (23, .slice (some ⟨b173, 0, none⟩) 64 64), (24, .I k), (143, .slice (some ⟨b173, 0, none⟩) 64 64), (144, .I k), (145, .slice wa_ ws.length wc), (146, .I j)] ?_
           have hx189 : j < ws.length := by omega
           refine qX .seq 147 (sq 5 11) 22 24 (j : Int) SB (ws[j]) H 0 rfl j (by omega) (List.getElem?_eq_getElem hx189) ?_
           intro b190 o191 es192 hr193 H
           obtain ⟨a194, k195, rfl⟩ := Shape.slice_form' hr193
           have H := H.add (F := Rp SB [.slice a194 (ws[j]).length k195] (ws[j])) hr193
           refine qL .seq 148 (sq 6 11) 24 b190 o191 0 (.slice a194 (ws[j]).length k195) (H.fc 1 rfl) ?_
           refine qP 1 (sq 7 11) [(0, .slice wa_ ws.length wc), (1, .slice aa as_.length ac), (2, .I sy), (9, .P db2 0), (10, .I ((nn : Nat) : Int)), (14, .I sz), (16, .I t), (17, .slice none 0 0), (18, .I 2), (19, .bool fi), (20, .slice qa qn qc), (21, .bool wa), (22, .I j), (23, .slice (some ⟨b173, 0, none⟩) 64 64), (24, .I k), (143, .slice (some ⟨b173, 0, none⟩) 64 64), (144, .I k), (148, .slice a194 (ws[j]).length k195), (149, .I k)] ?_
           have hx196 : k < (ws[j]).length := by omega
           refine qX .seq 150 (sq 8 11) 24 5 (k : Int) Sb ((ws[j])[k]) H 0 rfl k (by omega) (List.getElem?_eq_getElem hx196) ?_
           intro b197 o198 es199 hr200 H
           obtain rfl := hr200
           refine qL .seq 151 (sq 9 11) 5 b197 o198 0 (.int .u8 ((((ws[j])[k]).toNat : Nat) : Int)) (H.fc 0 rfl) ?_
           have hn202 : 64 = (padTo ws[j] k).length := by rw [padTo_len]
           have hx201 : k < (padTo ws[j] k).length := by rw [padTo_len]; omega
           refine RW.indexW (κ := .seq) (d := some 152) (r := (sq 10 11)) (T := 24) (e := 5) (m := 1) (ik := .i64) (ix := (k : Int)) (sh := Sb) (xs := (padTo ws[j] k)) (a := (some ⟨b173, 0, none⟩)) (len := 64) (cap := 64) (by as_aux_lemma => kernel_rfl) (by as_aux_lemma => kernel_rfl) rfl H k (by omega) hx201 hn202 ?_
           intro b203 es204 ha205 hcell206 hr207
           obtain rfl := hr207
           refine RW.storeW (d := none) (r := (sq 11 11)) (e := 5) (m := 1) (b := b203) (k := k) (v := .int .u8 ((((ws[j])[k]).toNat : Nat) : Int)) (by as_aux_lemma => kernel_rfl) rfl (by as_aux_lemma => kernel_rfl) H ha205 hx201 hn202 ((ws[j])[k]) Shape.bv_mk ?_
           intro w208 H
           have H := H.reW (ys := (padTo ws[j] (k + 1))) (padTo_step (by omega))
           refine qF 0 [(0, .slice wa_ ws.length wc), (1, .slice aa as_.length ac), (2, .I sy), (9, .P db2 0), (10, .I ((nn : Nat) : Int)), (14, .I sz), (16, .I t), (17, .slice none 0 0), (18, .I 2), (19, .bool fi), (20, .slice qa qn qc), (21, .bool wa), (22, .I j), (23, .slice (some ⟨b173, 0, none⟩) 64 64), (24, .I k)] ?_
           refine qR 1 [.c [9, 0, 1, 0, 0, 1, 0, 0, 5, 0, 1, 0, 0, 1, 0, 0, 1, 0, 1, 0, 0, 2], .l [9, 0, 1, 0, 0, 1, 0, 0, 5, 0, 1, 0, 0, 1, 0, 0, 1, 0, 1, 0, 0], .b 8, .c [9, 0, 1, 0, 0, 1, 0, 0, 5, 0, 1, 0, 0, 1, 0, 0, 2], .b 7, .c [9, 0, 1, 0, 0, 1, 0, 0, 5, 0, 1, 0, 0, 2], .l [9, 0, 1, 0, 0, 1, 0, 0, 5, 0, 1, 0, 0], .b 6, .c [9, 0, 1, 0, 0, 1, 0, 0, 6], .b 5, .c [9, 0, 1, 0, 0, 2], .l [9, 0, 1, 0, 0], .b 4, .c [10]] [(0, .slice wa_ ws.length wc), (1, .slice aa as_.length ac), (2, .I sy), (9, .P db2 0), (10, .I ((nn : Nat) : Int)), (14, .I sz), (16, .I t), (17, .slice none 0 0), (18, .I 2), (19, .bool fi), (20, .slice qa qn qc), (21, .bool wa), (22, .I j), (23, .slice (some ⟨b173, 0, none⟩) 64 64), (24, .I k)] ?_
           refine qG (sq 0 3) ?_
           refine qP 1 (sq 1 3) [(0, .slice wa_ ws.length wc), (1, .slice aa as_.length ac), (2, .I sy), (9, .P db2 0), (10, .I ((nn : Nat) : Int)), (14, .I sz), (16, .I t), (17, .slice none 0 0), (18, .I 2), (19, .bool fi), (20, .slice qa qn qc), (21, .bool wa), (22, .I j), (23, .slice (some ⟨b173, 0, none⟩) 64 64), (24, .I k), (141, .I k)] ?_
           refine qI .seq 142 (sq 2 3) ((k : Int) + 1) ?_
           refine qF 1 [(0, .slice wa_ ws.length wc), (1, .slice aa as_.length ac), (2, .I sy), (9, .P db2 0), (10, .I ((nn : Nat) : Int)), (14, .I sz), (16, .I t), (17, .slice none 0 0), (18, .I 2), (19, .bool fi), (20, .slice qa qn qc), (21, .bool wa), (22, .I j), (23, .slice (some ⟨b173, 0, none⟩) 64 64), (24, .I ((k : Int) + 1))] ?_
           have H := H.pick [3, 4, 5, 6] rfl
           exact WK.back (hback175 (k + 1) _ ⟨H, by omega⟩ (by first | omega | (simp only []; omega))) (by as_aux_lemma => kernel_rfl)
          ·
           rw [hbj179] at h188
           replace h188 := of_decide_eq_false h188
           rw [padTo_end (l := ws[j]) (k := k) (by omega)] at H
           have H : Hp w S [] ((diskM db2 (crashD D ks ns64 nb65) none 0)) [⟨Sb, 5, .slice (some ⟨b173, 0, none⟩) 64 64, (padTo ws[j] 64)⟩, ⟨stepS, 67, .slice none ((crashD D ks ns64 nb65).steps.length) 0, (crashD D ks ns64 nb65).steps⟩] [Rp (Shape.slice SB) [.slice wa_ ws.length wc] ws, Rp (Shape.slice (Shape.int .i64)) [.slice aa as_.length ac] as_, Rp SB [.slice ka ks.length kc] ks, Rp SB [.slice qa qn qc] sb] _ := H
           refine qR 3 [.c [9, 0, 1, 0, 0, 1, 0, 0, 5, 0, 1, 0, 0, 1, 0, 0, 2, 0, 0], .c [9, 0, 1, 0, 0, 1, 0, 0, 5, 0, 1, 0, 0, 1, 0, 0, 2, 0, 1], .c [9, 0, 1, 0, 0, 1, 0, 0, 5, 0, 1, 0, 0, 1, 0, 0, 3], .b 7, .c [9, 0, 1, 0, 0, 1, 0, 0, 5, 0, 1, 0, 0, 2], .l [9, 0, 1, 0, 0, 1, 0, 0, 5, 0, 1, 0, 0], .b 6, .c [9, 0, 1, 0, 0, 1, 0, 0, 6], .b 5, .c [9, 0, 1, 0, 0, 2], .l [9, 0, 1, 0, 0], .b 4, .c [10]] [(0, .slice wa_ ws.length wc), (1, .slice aa as_.length ac), (2, .I sy), (9, .P db2 0), (10, .I ((nn : Nat) : Int)), (14, .I sz), (16, .I t), (17, .slice none 0 0), (18, .I 2), (19, .bool fi), (20, .slice qa qn qc), (21, .bool wa), (22, .I j), (23, .slice (some ⟨b173, 0, none⟩) 64 64)] ?_
           refine WK.join (fun b_ : Bool => b_ = decide ((as_[j] % 8 = (t : Int)) ∧ ((j : Int) ≤ sy))) (fun b_ => [(0, .slice wa_ ws.length wc), (1, .slice aa as_.length ac), (2, .I sy), (9, .P db2 0), (10, .I ((nn : Nat) : Int)), (14, .I sz), (16, .I t), (17, .slice none 0 0), (18, .I 2), (19, .bool fi), (20, .slice qa qn qc), (21, .bool wa), (22, .I j), (23, .slice (some ⟨b173, 0, none⟩) 64 64), (164, .bool b_)]) [Cq Try.prog 3 [9, 0, 1, 0, 0, 1, 0, 0, 5, 0, 1, 0, 0, 1, 0, 0, 2, 0, 1], Cq Try.prog 3 [9, 0, 1, 0, 0, 1, 0, 0, 5, 0, 1, 0, 0, 1, 0, 0, 3], .inBlock 7, Cq Try.prog 3 [9, 0, 1, 0, 0, 1, 0, 0, 5, 0, 1, 0, 0, 2], Lq Try.prog 3 [9, 0, 1, 0, 0, 1, 0, 0, 5, 0, 1, 0, 0], .inBlock 6, Cq Try.prog 3 [9, 0, 1, 0, 0, 1, 0, 0, 6], .inBlock 5, Cq Try.prog 3 [9, 0, 1, 0, 0, 2], Lq Try.prog 3 [9, 0, 1, 0, 0], .inBlock 4, Cq Try.prog 3 [10]] (fun hJ209 => ?_) (fun bj210 hbj211 => ?_)
           ·
            refine qG (sq 0 12) ?_
            refine qP 2 (sq 2 12) [(0, .slice wa_ ws.length wc), (1, .slice aa as_.length ac), (2, .I sy), (9, .P db2 0), (10, .I ((nn : Nat) : Int)), (14, .I sz), (16, .I t), (17, .slice none 0 0), (18, .I 2), (19, .bool fi), (20, .slice qa qn qc), (21, .bool wa), (22, .I j), (23, .slice (some ⟨b173, 0, none⟩) 64 64), (153, .slice aa as_.length ac), (154, .I j)] ?_
            have hx212 : j < as_.length := by omega
            refine qX .seq 155 (sq 3 12) 23 3 (j : Int) (Shape.int .i64) (as_[j]) H 1 rfl j (by omega) (List.getElem?_eq_getElem hx212) ?_
            intro b213 o214 es215 hr216 H
            have hb217 := Shape.i64_bd hr216
            obtain ⟨rfl, -⟩ := hr216
            refine qL .seq 156 (sq 4 12) 3 b213 o214 0 (.I (as_[j])) (H.fc 0 rfl) ?_
            refine RW.pv (κ := .seq) (d := some 157) (r := (sq 5 12)) (v := .I (IntKind.i64.wrap ((BitVec.ofInt 64 (as_[j]) &&& BitVec.ofInt 64 7).toNat : Nat))) (v' := .I ((as_[j]) % 8)) (by as_aux_lemma => kernel_rfl) (and_i64 (j := 3) (m := 7) (by decide) (by decide)) ?_
            refine qP 3 (sq 8 12) [(0, .slice wa_ ws.length wc), (1, .slice aa as_.length ac), (2, .I sy), (9, .P db2 0), (10, .I ((nn : Nat) : Int)), (14, .I sz), (16, .I t), (17, .slice none 0 0), (18, .I 2), (19, .bool fi), (20, .slice qa qn qc), (21, .bool wa), (22, .I j), (23, .slice (some ⟨b173, 0, none⟩) 64 64), (160, .bool (((as_[j]) % 8) == (t : Int)))] ?_
            refine tE (fun b_ => [(0, .slice wa_ ws.length wc), (1, .slice aa as_.length ac), (2, .I sy), (9, .P db2 0), (10, .I ((nn : Nat) : Int)), (14, .I sz), (16, .I t), (17, .slice none 0 0), (18, .I 2), (19, .bool fi), (20, .slice qa qn qc), (21, .bool wa), (22, .I j), (23, .slice (some ⟨b173, 0, none⟩) 64 64), (160, .bool b_)]) ((as_[j]) % 8) (t : Int) (fun h218 => ?_) (fun h218 => ?_)
            ·
             refine qF 4 [(0, .slice wa_ ws.length wc), (1, .slice aa as_.length ac), (2, .I sy), (9, .P db2 0), (10, .I ((nn : Nat) : Int)), (14, .I sz), (16, .I t), (17, .slice none 0 0), (18, .I 2), (19, .bool fi), (20, .slice qa qn qc), (21, .bool wa), (22, .I j), (23, .slice (some ⟨b173, 0, none⟩) 64 64), (164, .bool (decide (((j : Int) : Int) ≤ sy)))] ?_
             exact hJ209 (decide (((j : Int) : Int) ≤ sy)) (decide_eq_decide.2 (by constructor <;> intro _ <;> omega))
            ·
             refine qF 4 [(0, .slice wa_ ws.length wc), (1, .slice aa as_.length ac), (2, .I sy), (9, .P db2 0), (10, .I ((nn : Nat) : Int)), (14, .I sz), (16, .I t), (17, .slice none 0 0), (18, .I 2), (19, .bool fi), (20, .slice qa qn qc), (21, .bool wa), (22, .I j), (23, .slice (some ⟨b173, 0, none⟩) 64 64), (164, .bool false)] ?_
             exact hJ209 false ((decide_eq_false (by omega)).symm)
           ·
            refine qC bj210 (fun h219 => ?_) (fun h219 => ?_)
            ·
             rw [hbj211] at h219
             replace h219 := of_decide_eq_true h219
             refine qR 2 [.c [9, 0, 1, 0, 0, 1, 0, 0, 5, 0, 1, 0, 0, 1, 0, 0, 3, 0], .c [9, 0, 1, 0, 0, 1, 0, 0, 5, 0, 1, 0, 0, 1, 0, 0, 4], .b 7, .c [9, 0, 1, 0, 0, 1, 0, 0, 5, 0, 1, 0, 0, 2], .l [9, 0, 1, 0, 0, 1, 0, 0, 5, 0, 1, 0, 0], .b 6, .c [9, 0, 1, 0, 0, 1, 0, 0, 6], .b 5, .c [9, 0, 1, 0, 0, 2], .l [9, 0, 1, 0, 0], .b 4, .c [10]] [(0, .slice wa_ ws.length wc), (1, .slice aa as_.length ac), (2, .I sy), (9, .P db2 0), (10, .I ((nn : Nat) : Int)), (14, .I sz), (16, .I t), (17, .slice none 0 0), (18, .I 2), (19, .bool fi), (20, .slice (some ⟨b173, 0, none⟩) 64 64), (21, .bool true), (22, .I j), (23, .slice (some ⟨b173, 0, none⟩) 64 64)] ?_
             refine WK.join (fun b_ : Bool => b_ = decide ((as_[j] % 8 = (t : Int)) ∧ ((j : Int) > sy))) (fun b_ => [(0, .slice wa_ ws.length wc), (1, .slice aa as_.length ac), (2, .I sy), (9, .P db2 0), (10, .I ((nn : Nat) : Int)), (14, .I sz), (16, .I t), (17, .slice none 0 0), (18, .I 2), (19, .bool fi), (20, .slice (some ⟨b173, 0, none⟩) 64 64), (21, .bool true), (22, .I j), (23, .slice (some ⟨b173, 0, none⟩) 64 64), (177, .bool b_)]) [Cq Try.prog 3 [9, 0, 1, 0, 0, 1, 0, 0, 5, 0, 1, 0, 0, 1, 0, 0, 4], .inBlock 7, Cq Try.prog 3 [9, 0, 1, 0, 0, 1, 0, 0, 5, 0, 1, 0, 0, 2], Lq Try.prog 3 [9, 0, 1, 0, 0, 1, 0, 0, 5, 0, 1, 0, 0], .inBlock 6, Cq Try.prog 3 [9, 0, 1, 0, 0, 1, 0, 0, 6], .inBlock 5, Cq Try.prog 3 [9, 0, 1, 0, 0, 2], Lq Try.prog 3 [9, 0, 1, 0, 0], .inBlock 4, Cq Try.prog 3 [10]] (fun hJ220 => ?_) (fun bj221 hbj222 => ?_)
             ·
              refine qG (sq 0 12) ?_
              refine qP 2 (sq 2 12) [(0, .slice wa_ ws.length wc), (1, .slice aa as_.length ac), (2, .I sy), (9, .P db2 0), (10, .I ((nn : Nat) : Int)), (14, .I sz), (16, .I t), (17, .slice none 0 0), (18, .I 2), (19, .bool fi), (20, .slice (some ⟨b173, 0, none⟩) 64 64), (21, .bool true), (22, .I j), (23, .slice (some ⟨b173, 0, none⟩) 64 64), (166, .slice aa as_.length ac), (167, .I j)] ?_
              have hx223 : j < as_.length := by omega
              refine qX .seq 168 (sq 3 12) 23 3 (j : Int) (Shape.int .i64) (as_[j]) H 1 rfl j (by omega) (List.getElem?_eq_getElem hx223) ?_
              intro b224 o225 es226 hr227 H
              have hb228 := Shape.i64_bd hr227
              obtain ⟨rfl, -⟩ := hr227
              refine qL .seq 169 (sq 4 12) 3 b224 o225 0 (.I (as_[j])) (H.fc 0 rfl) ?_
              refine RW.pv (κ := .seq) (d := some 170) (r := (sq 5 12)) (v := .I (IntKind.i64.wrap ((BitVec.ofInt 64 (as_[j]) &&& BitVec.ofInt 64 7).toNat : Nat))) (v' := .I ((as_[j]) % 8)) (by as_aux_lemma => kernel_rfl) (and_i64 (j := 3) (m := 7) (by decide) (by decide)) ?_
              refine qP 3 (sq 8 12) [(0, .slice wa_ ws.length wc), (1, .slice aa as_.length ac), (2, .I sy), (9, .P db2 0), (10, .I ((nn : Nat) : Int)), (14, .I sz), (16, .I t), (17, .slice none 0 0), (18, .I 2), (19, .bool fi), (20, .slice (some ⟨b173, 0, none⟩) 64 64), (21, .bool true), (22, .I j), (23, .slice (some ⟨b173, 0, none⟩) 64 64), (173, .bool (((as_[j]) % 8) == (t : Int)))] ?_
              refine tE (fun b_ => [(0, .slice wa_ ws.length wc), (1, .slice aa as_.length ac), (2, .I sy), (9, .P db2 0), (10, .I ((nn : Nat) : Int)), (14, .I sz), (16, .I t), (17, .slice none 0 0), (18, .I 2), (19, .bool fi), (20, .slice (some ⟨b173, 0, none⟩) 64 64), (21, .bool true), (22, .I j), (23, .slice (some ⟨b173, 0, none⟩) 64 64), (173, .bool b_)]) ((as_[j]) % 8) (t : Int) (fun h229 => ?_) (fun h229 => ?_)
              ·
               refine qF 4 [(0, .slice wa_ ws.length wc), (1, .slice aa as_.length ac), (2, .I sy), (9, .P db2 0), (10, .I ((nn : Nat) : Int)), (14, .I sz), (16, .I t), (17, .slice none 0 0), (18, .I 2), (19, .bool fi), (20, .slice (some ⟨b173, 0, none⟩) 64 64), (21, .bool true), (22, .I j), (23, .slice (some ⟨b173, 0, none⟩) 64 64), (177, .bool (decide (((j : Int) : Int) > sy)))] ?_
               exact hJ220 (decide (((j : Int) : Int) > sy)) (decide_eq_decide.2 (by constructor <;> intro _ <;> omega))
              ·
               refine qF 4 [(0, .slice wa_ ws.length wc), (1, .slice aa as_.length ac), (2, .I sy), (9, .P db2 0), (10, .I ((nn : Nat) : Int)), (14, .I sz), (16, .I t), (17, .slice none 0 0), (18, .I 2), (19, .bool fi), (20, .slice (some ⟨b173, 0, none⟩) 64 64), (21, .bool true), (22, .I j), (23, .slice (some ⟨b173, 0, none⟩) 64 64), (177, .bool false)] ?_
               exact hJ220 false ((decide_eq_false (by omega)).symm)
             ·
              refine qC bj221 (fun h230 => ?_) (fun h230 => ?_)
              ·
               rw [hbj222] at h230
               replace h230 := of_decide_eq_true h230
               omega
              ·
               rw [hbj222] at h230
               replace h230 := of_decide_eq_false h230
               refine qR 2 [.c [9, 0, 1, 0, 0, 1, 0, 0, 5, 0, 1, 0, 0, 2], .l [9, 0, 1, 0, 0, 1, 0, 0, 5, 0, 1, 0, 0], .b 6, .c [9, 0, 1, 0, 0, 1, 0, 0, 6], .b 5, .c [9, 0, 1, 0, 0, 2], .l [9, 0, 1, 0, 0], .b 4, .c [10]] [(0, .slice wa_ ws.length wc), (1, .slice aa as_.length ac), (2, .I sy), (9, .P db2 0), (10, .I ((nn : Nat) : Int)), (14, .I sz), (16, .I t), (17, .slice none 0 0), (18, .I 2), (19, .bool fi), (20, .slice (some ⟨b173, 0, none⟩) 64 64), (21, .bool true), (22, .I j)] ?_
               refine qG (sq 0 3) ?_
               refine qP 1 (sq 1 3) [(0, .slice wa_ ws.length wc), (1, .slice aa as_.length ac), (2, .I sy), (9, .P db2 0), (10, .I ((nn : Nat) : Int)), (14, .I sz), (16, .I t), (17, .slice none 0 0), (18, .I 2), (19, .bool fi), (20, .slice (some ⟨b173, 0, none⟩) 64 64), (21, .bool true), (22, .I j), (127, .I j)] ?_
               refine qI .seq 128 (sq 2 3) ((j : Int) + 1) ?_
               refine qF 1 [(0, .slice wa_ ws.length wc), (1, .slice aa as_.length ac), (2, .I sy), (9, .P db2 0), (10, .I ((nn : Nat) : Int)), (14, .I sz), (16, .I t), (17, .slice none 0 0), (18, .I 2), (19, .bool fi), (20, .slice (some ⟨b173, 0, none⟩) 64 64), (21, .bool true), (22, .I ((j : Int) + 1))] ?_
               have H : Hp w S [] ((diskM db2 (crashD D ks ns64 nb65) none 0)) [⟨stepS, 67, .slice none ((crashD D ks ns64 nb65).steps.length) 0, (crashD D ks ns64 nb65).steps⟩] [Rp SB [.slice (some ⟨b173, 0, none⟩) 64 64] (padTo ws[j] 64), Rp (Shape.slice SB) [.slice wa_ ws.length wc] ws, Rp (Shape.slice (Shape.int .i64)) [.slice aa as_.length ac] as_, Rp SB [.slice ka ks.length kc] ks, Rp SB [.slice qa qn qc] sb] _ := H.freezeW 0 rfl
               have hJ2 := hJ.safe (by omega) (by rw [wf_at hjw hja]; omega) (padTo_len ws[j] 64) (by rw [wf_at hjw hja])
               have H := H.pick [1, 2, 3, 0] rfl
               exact WK.back (hback170 (j + 1, fi, true, (padTo ws[j] 64), (some ⟨b173, 0, none⟩), 64, 64) _ ⟨H, by omega, hJ2⟩ (by first | omega | (simp only []; omega))) (by as_aux_lemma => kernel_rfl)
            ·
             rw [hbj211] at h219
             replace h219 := of_decide_eq_false h219
             refine qR 2 [.c [9, 0, 1, 0, 0, 1, 0, 0, 5, 0, 1, 0, 0, 1, 0, 0, 3, 0], .c [9, 0, 1, 0, 0, 1, 0, 0, 5, 0, 1, 0, 0, 1, 0, 0, 4], .b 7, .c [9, 0, 1, 0, 0, 1, 0, 0, 5, 0, 1, 0, 0, 2], .l [9, 0, 1, 0, 0, 1, 0, 0, 5, 0, 1, 0, 0], .b 6, .c [9, 0, 1, 0, 0, 1, 0, 0, 6], .b 5, .c [9, 0, 1, 0, 0, 2], .l [9, 0, 1, 0, 0], .b 4, .c [10]] [(0, .slice wa_ ws.length wc), (1, .slice aa as_.length ac), (2, .I sy), (9, .P db2 0), (10, .I ((nn : Nat) : Int)), (14, .I sz), (16, .I t), (17, .slice none 0 0), (18, .I 2), (19, .bool fi), (20, .slice qa qn qc), (21, .bool wa), (22, .I j), (23, .slice (some ⟨b173, 0, none⟩) 64 64)] ?_
             refine WK.join (fun b_ : Bool => b_ = decide ((as_[j] % 8 = (t : Int)) ∧ ((j : Int) > sy))) (fun b_ => [(0, .slice wa_ ws.length wc), (1, .slice aa as_.length ac), (2, .I sy), (9, .P db2 0), (10, .I ((nn : Nat) : Int)), (14, .I sz), (16, .I t), (17, .slice none 0 0), (18, .I 2), (19, .bool fi), (20, .slice qa qn qc), (21, .bool wa), (22, .I j), (23, .slice (some ⟨b173, 0, none⟩) 64 64), (177, .bool b_)]) [Cq Try.prog 3 [9, 0, 1, 0, 0, 1, 0, 0, 5, 0, 1, 0, 0, 1, 0, 0, 4], .inBlock 7, Cq Try.prog 3 [9, 0, 1, 0, 0, 1, 0, 0, 5, 0, 1, 0, 0, 2], Lq Try.prog 3 [9, 0, 1, 0, 0, 1, 0, 0, 5, 0, 1, 0, 0], .inBlock 6, Cq Try.prog 3 [9, 0, 1, 0, 0, 1, 0, 0, 6], .inBlock 5, Cq Try.prog 3 [9, 0, 1, 0, 0, 2], Lq Try.prog 3 [9, 0, 1, 0, 0], .inBlock 4, Cq Try.prog 3 [10]] (fun hJ231 => ?_) (fun bj232 hbj233 => ?_)
             ·
              refine qG (sq 0 12) ?_
              refine qP 2 (sq 2 12) [(0, .slice wa_ ws.length wc), (1, .slice aa as_.length ac), (2, .I sy), (9, .P db2 0), (10, .I ((nn : Nat) : Int)), (14, .I sz), (16, .I t), (17, .slice none 0 0), (18, .I 2), (19, .bool fi), (20, .slice qa qn qc), (21, .bool wa), (22, .I j), (23, .slice (some ⟨b173, 0, none⟩) 64 64), (166, .slice aa as_.length ac), (167, .I j)] ?_
              have hx234 : j < as_.length := by omega
              refine qX .seq 168 (sq 3 12) 23 3 (j : Int) (Shape.int .i64) (as_[j]) H 1 rfl j (by omega) (List.getElem?_eq_getElem hx234) ?_
              intro b235 o236 es237 hr238 H
              have hb239 := Shape.i64_bd hr238
              obtain ⟨rfl, -⟩ := hr238
              refine qL .seq 169 (sq 4 12) 3 b235 o236 0 (.I (as_[j])) (H.fc 0 rfl) ?_
              refine RW.pv (κ := .seq) (d := some 170) (r := (sq 5 12)) (v := .I (IntKind.i64.wrap ((BitVec.ofInt 64 (as_[j]) &&& BitVec.ofInt 64 7).toNat : Nat))) (v' := .I ((as_[j]) % 8)) (by as_aux_lemma => kernel_rfl) (and_i64 (j := 3) (m := 7) (by decide) (by decide)) ?_
              refine qP 3 (sq 8 12) [(0, .slice wa_ ws.length wc), (1, .slice aa as_.length ac), (2, .I sy), (9, .P db2 0), (10, .I ((nn : Nat) : Int)), (14, .I sz), (16, .I t), (17, .slice none 0 0), (18, .I 2), (19, .bool fi), (20, .slice qa qn qc), (21, .bool wa), (22, .I j), (23, .slice (some ⟨b173, 0, none⟩) 64 64), (173, .bool (((as_[j]) % 8) == (t : Int)))] ?_
              refine tE (fun b_ => [(0, .slice wa_ ws.length wc), (1, .slice aa as_.length ac), (2, .I sy), (9, .P db2 0), (10, .I ((nn : Nat) : Int)), (14, .I sz), (16, .I t), (17, .slice none 0 0), (18, .I 2), (19, .bool fi), (20, .slice qa qn qc), (21, .bool wa), (22, .I j), (23, .slice (some ⟨b173, 0, none⟩) 64 64), (173, .bool b_)]) ((as_[j]) % 8) (t : Int) (fun h240 => ?_) (fun h240 => ?_)
              ·
               refine qF 4 [(0, .slice wa_ ws.length wc), (1, .slice aa as_.length ac), (2, .I sy), (9, .P db2 0), (10, .I ((nn : Nat) : Int)), (14, .I sz), (16, .I t), (17, .slice none 0 0), (18, .I 2), (19, .bool fi), (20, .slice qa qn qc), (21, .bool wa), (22, .I j), (23, .slice (some ⟨b173, 0, none⟩) 64 64), (177, .bool (decide (((j : Int) : Int) > sy)))] ?_
               exact hJ231 (decide (((j : Int) : Int) > sy)) (decide_eq_decide.2 (by constructor <;> intro _ <;> omega))
              ·
               refine qF 4 [(0, .slice wa_ ws.length wc), (1, .slice aa as_.length ac), (2, .I sy), (9, .P db2 0), (10, .I ((nn : Nat) : Int)), (14, .I sz), (16, .I t), (17, .slice none 0 0), (18, .I 2), (19, .bool fi), (20, .slice qa qn qc), (21, .bool wa), (22, .I j), (23, .slice (some ⟨b173, 0, none⟩) 64 64), (177, .bool false)] ?_
               exact hJ231 false ((decide_eq_false (by omega)).symm)
             ·
              refine qC bj232 (fun h241 => ?_) (fun h241 => ?_)
              ·
               rw [hbj233] at h241
               replace h241 := of_decide_eq_true h241
               refine qG (sq 0 7) ?_
               refine qP 2 (sq 2 7) [(0, .slice wa_ ws.length wc), (1, .slice aa as_.length ac), (2, .I sy), (9, .P db2 0), (10, .I ((nn : Nat) : Int)), (14, .I sz), (16, .I t), (17, .slice none 0 0), (18, .I 2), (19, .bool fi), (20, .slice qa qn qc), (21, .bool wa), (22, .I j), (23, .slice (some ⟨b173, 0, none⟩) 64 64), (179, .bool fi)] ?_
               refine RW.test (fun b_ => [(0, .slice wa_ ws.length wc), (1, .slice aa as_.length ac), (2, .I sy), (9, .P db2 0), (10, .I ((nn : Nat) : Int)), (14, .I sz), (16, .I t), (17, .slice none 0 0), (18, .I 2), (19, .bool fi), (20, .slice qa qn qc), (21, .bool wa), (22, .I j), (23, .slice (some ⟨b173, 0, none⟩) 64 64), (179, .bool b_)]) fi (fun h242 => ?_) (fun h242 => ?_)
               ·
                refine qF 5 [(0, .slice wa_ ws.length wc), (1, .slice aa as_.length ac), (2, .I sy), (9, .P db2 0), (10, .I ((nn : Nat) : Int)), (14, .I sz), (16, .I t), (17, .slice none 0 0), (18, .I 2), (19, .bool true), (20, .slice qa qn qc), (21, .bool wa), (22, .I j)] ?_
                refine qR 1 [.c [9, 0, 1, 0, 0, 1, 0, 0, 5, 0, 1, 0, 0, 2], .l [9, 0, 1, 0, 0, 1, 0, 0, 5, 0, 1, 0, 0], .b 6, .c [9, 0, 1, 0, 0, 1, 0, 0, 6], .b 5, .c [9, 0, 1, 0, 0, 2], .l [9, 0, 1, 0, 0], .b 4, .c [10]] [(0, .slice wa_ ws.length wc), (1, .slice aa as_.length ac), (2, .I sy), (9, .P db2 0), (10, .I ((nn : Nat) : Int)), (14, .I sz), (16, .I t), (17, .slice none 0 0), (18, .I 2), (19, .bool true), (20, .slice qa qn qc), (21, .bool wa), (22, .I j)] ?_
                refine qG (sq 0 3) ?_
                refine qP 1 (sq 1 3) [(0, .slice wa_ ws.length wc), (1, .slice aa as_.length ac), (2, .I sy), (9, .P db2 0), (10, .I ((nn : Nat) : Int)), (14, .I sz), (16, .I t), (17, .slice none 0 0), (18, .I 2), (19, .bool true), (20, .slice qa qn qc), (21, .bool wa), (22, .I j), (127, .I j)] ?_
                refine qI .seq 128 (sq 2 3) ((j : Int) + 1) ?_
                refine qF 1 [(0, .slice wa_ ws.length wc), (1, .slice aa as_.length ac), (2, .I sy), (9, .P db2 0), (10, .I ((nn : Nat) : Int)), (14, .I sz), (16, .I t), (17, .slice none 0 0), (18, .I 2), (19, .bool true), (20, .slice qa qn qc), (21, .bool wa), (22, .I ((j : Int) + 1))] ?_
                have hJ2 := hJ.late (fi' := true) (by omega) (fun _ => rfl) (fun _ _ _ => rfl)
                have H := H.frontW 1 (W' := [⟨stepS, 67, .slice none ((crashD D ks ns64 nb65).steps.length) 0, (crashD D ks ns64 nb65).steps⟩, ⟨Sb, 5, .slice (some ⟨b173, 0, none⟩) 64 64, (padTo ws[j] 64)⟩]) rfl
                have H := H.drop (M' := ((diskM db2 (crashD D ks ns64 nb65) none 0))) (W' := [⟨stepS, 67, .slice none ((crashD D ks ns64 nb65).steps.length) 0, (crashD D ks ns64 nb65).steps⟩]) (by repeat (first | exact List.Sublist.refl _ | apply List.Sublist.cons_cons | apply List.Sublist.cons)) (by repeat (first | exact List.Sublist.refl _ | apply List.Sublist.cons_cons | apply List.Sublist.cons))
                exact WK.back (hback170 (j + 1, true, wa, sb, qa, qn, qc) _ ⟨H, by omega, hJ2⟩ (by first | omega | (simp only []; omega))) (by as_aux_lemma => kernel_rfl)
               ·
                have := hJ.2.2; rw [h242] at this; cases this
              ·
               rw [hbj233] at h241
               replace h241 := of_decide_eq_false h241
               refine qR 2 [.c [9, 0, 1, 0, 0, 1, 0, 0, 5, 0, 1, 0, 0, 2], .l [9, 0, 1, 0, 0, 1, 0, 0, 5, 0, 1, 0, 0], .b 6, .c [9, 0, 1, 0, 0, 1, 0, 0, 6], .b 5, .c [9, 0, 1, 0, 0, 2], .l [9, 0, 1, 0, 0], .b 4, .c [10]] [(0, .slice wa_ ws.length wc), (1, .slice aa as_.length ac), (2, .I sy), (9, .P db2 0), (10, .I ((nn : Nat) : Int)), (14, .I sz), (16, .I t), (17, .slice none 0 0), (18, .I 2), (19, .bool fi), (20, .slice qa qn qc), (21, .bool wa), (22, .I j)] ?_
               refine qG (sq 0 3) ?_
               refine qP 1 (sq 1 3) [(0, .slice wa_ ws.length wc), (1, .slice aa as_.length ac), (2, .I sy), (9, .P db2 0), (10, .I ((nn : Nat) : Int)), (14, .I sz), (16, .I t), (17, .slice none 0 0), (18, .I 2), (19, .bool fi), (20, .slice qa qn qc), (21, .bool wa), (22, .I j), (127, .I j)] ?_
               refine qI .seq 128 (sq 2 3) ((j : Int) + 1) ?_
               refine qF 1 [(0, .slice wa_ ws.length wc), (1, .slice aa as_.length ac), (2, .I sy), (9, .P db2 0), (10, .I ((nn : Nat) : Int)), (14, .I sz), (16, .I t), (17, .slice none 0 0), (18, .I 2), (19, .bool fi), (20, .slice qa qn qc), (21, .bool wa), (22, .I ((j : Int) + 1))] ?_
               have hJ2 := hJ.other (by rw [wf_at hjw hja]; omega)
               have H := H.frontW 1 (W' := [⟨stepS, 67, .slice none ((crashD D ks ns64 nb65).steps.length) 0, (crashD D ks ns64 nb65).steps⟩, ⟨Sb, 5, .slice (some ⟨b173, 0, none⟩) 64 64, (padTo ws[j] 64)⟩]) rfl
               have H := H.drop (M' := ((diskM db2 (crashD D ks ns64 nb65) none 0))) (W' := [⟨stepS, 67, .slice none ((crashD D ks ns64 nb65).steps.length) 0, (crashD D ks ns64 nb65).steps⟩]) (by repeat (first | exact List.Sublist.refl _ | apply List.Sublist.cons_cons | apply List.Sublist.cons)) (by repeat (first | exact List.Sublist.refl _ | apply List.Sublist.cons_cons | apply List.Sublist.cons))
               exact WK.back (hback170 (j + 1, fi, wa, sb, qa, qn, qc) _ ⟨H, by omega, hJ2⟩ (by first | omega | (simp only []; omega))) (by as_aux_lemma => kernel_rfl)
        ·
         have hjn : j = nn := by omega
         have hJn := hJ
         rw [hjn] at hJn
         refine qR 2 [.c [9, 0, 1, 0, 0, 1, 0, 0, 6, 0], .c [9, 0, 1, 0, 0, 1, 0, 0, 7], .b 5, .c [9, 0, 1, 0, 0, 2], .l [9, 0, 1, 0, 0], .b 4, .c [10]] [(0, .slice wa_ ws.length wc), (1, .slice aa as_.length ac), (2, .I sy), (9, .P db2 0), (10, .I ((nn : Nat) : Int)), (14, .I sz), (16, .I t), (17, .slice none 0 0), (18, .I 2), (19, .bool fi), (20, .slice qa qn qc), (21, .bool wa)] ?_
         refine qG (sq 0 19) ?_
         refine qP 6 (sq 6 19) [(0, .slice wa_ ws.length wc), (1, .slice aa as_.length ac), (2, .I sy), (9, .P db2 0), (10, .I ((nn : Nat) : Int)), (14, .I sz), (16, .I t), (17, .slice none 0 0), (18, .I 2), (19, .bool fi), (20, .slice qa qn qc), (189, .bool wa)] ?_
         refine RW.test (fun b_ => [(0, .slice wa_ ws.length wc), (1, .slice aa as_.length ac), (2, .I sy), (9, .P db2 0), (10, .I ((nn : Nat) : Int)), (14, .I sz), (16, .I t), (17, .slice none 0 0), (18, .I 2), (19, .bool fi), (20, .slice qa qn qc), (189, .bool b_)]) wa (fun h243 => ?_) (fun h243 => ?_)
         ·
          exact absurd (JInv.miss hJn hsn (hlaw _) h243) (by omega)
         ·
          refine qF 13 [(0, .slice wa_ ws.length wc), (1, .slice aa as_.length ac), (2, .I sy), (9, .P db2 0), (10, .I ((nn : Nat) : Int)), (14, .I sz), (16, .I t), (202, .bool false)] ?_
          refine qR 3 [.c [9, 0, 1, 0, 0, 2], .l [9, 0, 1, 0, 0], .b 4, .c [10]] [(0, .slice wa_ ws.length wc), (1, .slice aa as_.length ac), (2, .I sy), (9, .P db2 0), (10, .I ((nn : Nat) : Int)), (14, .I sz), (16, .I t)] ?_
          refine qG (sq 0 3) ?_
          refine qP 1 (sq 1 3) [(0, .slice wa_ ws.length wc), (1, .slice aa as_.length ac), (2, .I sy), (9, .P db2 0), (10, .I ((nn : Nat) : Int)), (14, .I sz), (16, .I t), (107, .I t)] ?_
          refine qI .seq 108 (sq 2 3) ((t : Int) + 1) ?_
          refine qF 1 [(0, .slice wa_ ws.length wc), (1, .slice aa as_.length ac), (2, .I sy), (9, .P db2 0), (10, .I ((nn : Nat) : Int)), (14, .I sz), (16, .I ((t : Int) + 1))] ?_
          have H := H.pick [0, 1, 2] rfl
          exact WK.back (hback79 (t + 1) _ ⟨H, by omega⟩ (by first | omega | (simp only []; omega))) (by as_aux_lemma => kernel_rfl)
     ·
      refine qR 2 [.c [10, 0], .c [11]] [] ?_
      refine qG (sq 0 2) ?_
      refine qK .seq (some 203) (sq 1 2) 12 #[] (heads_spec (S := fun _ => True)) ?_
      rintro _ w244 hE245 rfl
      have H := H.ext hE245
      refine qF 1 [(8, .bool true)] ?_
      refine qT (.bool true) Try.func3 ?_
      exact ⟨_, rfl, H.done, rfl⟩


end Go.Proofs.Ytekgjnblidjloaa
