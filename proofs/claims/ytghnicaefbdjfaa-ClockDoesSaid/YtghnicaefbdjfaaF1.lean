import Derived.Test.YtghnicaefbdjfaaC4
import Derived.Test.YtghnicaefbdjfaaBxMore
namespace Go.Proofs.Ytghnicaefbdjfaa
open Go.BX

structure Rt where
  node : Int
  id : Int
  when : Int

def rtS : Shape Rt := (Shape.pair (Shape.int .i64) (Shape.pair (Shape.int .i64) (Shape.int .i64))).map fun x => (x.node, x.id, x.when)
theorem rt_open {S : Nat → Prop} {w : World} {cs : List Value} {x : Rt} (h : rtS.rep S w cs x) : cs = [.int .i64 x.node, .int .i64 x.id, .int .i64 x.when] ∧ ((-9223372036854775808) ≤ x.node ∧ x.node ≤ 9223372036854775807) ∧ ((-9223372036854775808) ≤ x.id ∧ x.id ≤ 9223372036854775807) ∧ ((-9223372036854775808) ≤ x.when ∧ x.when ≤ 9223372036854775807) := by
  obtain ⟨c0, d0, rfl, h0, h⟩ := h
  obtain ⟨c1, d1, rfl, h1, h⟩ := h
  have h2 := h
  obtain ⟨e0, b0⟩ := h0
  obtain ⟨e1, b1⟩ := h1
  obtain ⟨e2, b2⟩ := h2
  exact ⟨(by simp [e0, e1, e2]), b0, b1, b2⟩
theorem rt_mk {S : Nat → Prop} {w : World} {y0 : Int} {l0 : List Value} (h0 : (Shape.int .i64).rep S w l0 y0) {y1 : Int} {l1 : List Value} (h1 : (Shape.int .i64).rep S w l1 y1) {y2 : Int} {l2 : List Value} (h2 : (Shape.int .i64).rep S w l2 y2) : rtS.rep S w (l0 ++ (l1 ++ (l2))) ⟨y0, y1, y2⟩ := ⟨_, _, rfl, h0, ⟨_, _, rfl, h1, h2⟩⟩
def hasE (n : Nat) (node : Int) : Bool := decide (1 ≤ node ∧ node ≤ (n : Int))
theorem has_st {n : Nat} {node : Int} (h : 1 ≤ node ∧ node ≤ (n : Int)) : stE n node = 0 := by
  unfold stE
  rw [if_neg (by omega), if_neg (by omega)]
theorem hasnt_st {n : Nat} {node : Int} (h : ¬ (1 ≤ node ∧ node ≤ (n : Int))) : stE n node ≠ 0 := by
  unfold stE
  split
  · omega
  · rw [if_pos (by omega)]; omega

theorem has_spec {S : Nat → Prop} {w : World} {rb rc tn rtc : Nat} {ra rta : Option Addr} {now : List Int} {num den slack : Int} (hF : (Fc rb 0 [.slice ra now.length rc, .int .i64 num, .int .i64 den, .int .i64 slack, .slice rta tn rtc]).p S w) (node : Int) :
    Calls Try.prog 31 #[.pointer (some ⟨rb, 0, none⟩), .int .i64 node] w (Ret fun v w' => Ext w w' ∧ v = .bool (hasE now.length node)) := by
  refine WK.calls1 (fn := Try.f31) (n := 16) (σ := [(0, .pointer (some ⟨rb, 0, none⟩)), (1, .int .i64 node)]) Try.func31 rfl (by as_aux_lemma => kernel_rfl) (by as_aux_lemma => kernel_rfl) (by as_aux_lemma => kernel_rfl) ?_
  have H := Hp.startF (w := w) (S := S) (G := [Fc rb 0 [.slice ra now.length rc, .int .i64 num, .int .i64 den, .int .i64 slack, .slice rta tn rtc]]) (.cons hF .nil)
  refine WK.run 3 [0, 1] [.code (cd Try.prog 31 [1, 0]), .code (cd Try.prog 31 [2])] [(0, .pointer (some ⟨rb, 0, none⟩)), (1, .int .i64 node)] (by as_aux_lemma => kernel_rfl) ?_
  refine WK.reg1 (l := sq 0 12) (by as_aux_lemma => kernel_rfl) (by as_aux_lemma => kernel_rfl) ?_
  refine RW.runP 3 [0, 1, 7] (sq 3 12) [(0, .pointer (some ⟨rb, 0, none⟩)), (1, .int .i64 node), (7, .bool (decide ((node : Int) ≥ 1)))] (by as_aux_lemma => kernel_rfl) (by as_aux_lemma => kernel_rfl) ?_
  refine RW.test (fun b_ => [(0, .pointer (some ⟨rb, 0, none⟩)), (1, .int .i64 node), (7, .bool b_)]) (decide ((node : Int) ≥ 1)) (fun h1 => ?_) (fun h1 => ?_)
  · skip
    replace h1 := of_decide_eq_true h1
    refine RW.runP 4 [7, 8, 11] (sq 7 12) [(7, .bool true), (8, .int .i64 node), (11, .pointer (some ⟨rb, 0, none⟩))] (by as_aux_lemma => kernel_rfl) (by as_aux_lemma => kernel_rfl) ?_
    refine RW.load (κ := .seq) (d := some 12) (r := (sq 8 12)) (T := 22) (b := rb) (o' := 0) (k := 0) (v := .slice ra now.length rc) (by as_aux_lemma => kernel_rfl) (H.fc 0 rfl) rfl (by as_aux_lemma => kernel_rfl) ?_
    refine RW.fin 4 [4] [(4, .bool (decide ((node : Int) ≤ ((now.length : Nat) : Int))))] (by as_aux_lemma => kernel_rfl) ?_
    refine WK.ret (v := .bool (decide ((node : Int) ≤ ((now.length : Nat) : Int)))) Try.func31 (by as_aux_lemma => kernel_rfl) (by as_aux_lemma => kernel_rfl) ?_
    refine ⟨_, rfl, H.done, ?_⟩
    congr 1
    unfold hasE
    exact decide_eq_decide.2 ⟨fun h => ⟨by omega, h⟩, fun h => h.2⟩
  · skip
    replace h1 := of_decide_eq_false h1
    refine RW.fin 9 [4] [(4, .bool false)] (by as_aux_lemma => kernel_rfl) ?_
    refine WK.ret (v := .bool false) Try.func31 (by as_aux_lemma => kernel_rfl) (by as_aux_lemma => kernel_rfl) ?_
    refine ⟨_, rfl, H.done, ?_⟩
    congr 1
    unfold hasE
    exact (decide_eq_false fun h => by omega).symm

theorem rnow_spec {S : Nat → Prop} {w : World} {rb rc tn rtc : Nat} {ra rta : Option Addr} {now : List Int} {num den slack : Int} (hF : (Fc rb 0 [.slice ra now.length rc, .int .i64 num, .int .i64 den, .int .i64 slack, .slice rta tn rtc]).p S w) (hN : (Shape.slice (Shape.int .i64)).rep S w [.slice ra now.length rc] now) (node : Int) :
    Calls Try.prog 22 #[.pointer (some ⟨rb, 0, none⟩), .int .i64 node] w (Ret fun v w' => Ext w w' ∧ v = .int .i64 (nowE now node)) := by
  have hnl := Shape.slice_len hN
  refine WK.calls1 (fn := Try.f22) (n := 17) (σ := [(0, .pointer (some ⟨rb, 0, none⟩)), (1, .int .i64 node)]) Try.func22 rfl (by as_aux_lemma => kernel_rfl) (by as_aux_lemma => kernel_rfl) (by as_aux_lemma => kernel_rfl) ?_
  have H := Hp.startF (w := w) (S := S) (G := [Fc rb 0 [.slice ra now.length rc, .int .i64 num, .int .i64 den, .int .i64 slack, .slice rta tn rtc], Rp (Shape.slice (Shape.int .i64)) [.slice ra now.length rc] now]) (.cons hF (.rp hN .nil))
  refine WK.run 4 [0, 1] [.code (cd Try.prog 22 [1, 0, 0]), .code (cd Try.prog 22 [1, 0, 1]), .code (cd Try.prog 22 [2])] [(0, .pointer (some ⟨rb, 0, none⟩)), (1, .int .i64 node)] (by as_aux_lemma => kernel_rfl) ?_
  refine WK.reg1 (l := sq 0 4) (by as_aux_lemma => kernel_rfl) (by as_aux_lemma => kernel_rfl) ?_
  refine RW.runP 2 [0, 1, 5, 6] (sq 2 4) [(0, .pointer (some ⟨rb, 0, none⟩)), (1, .int .i64 node), (5, .pointer (some ⟨rb, 0, none⟩)), (6, .int .i64 node)] (by as_aux_lemma => kernel_rfl) (by as_aux_lemma => kernel_rfl) ?_
  refine RW.call (κ := .seq) (d := some 7) (r := (sq 3 4)) (g := 31) (args := #[.pointer (some ⟨rb, 0, none⟩), .int .i64 node]) (by as_aux_lemma => kernel_rfl) (nofun) (has_spec (S := fun _ => True) (now := now) (H.viewF 0 rfl) node) ?_
  rintro _ w1 hE2 rfl
  have H := H.ext hE2
  refine RW.fin 1 [0, 1, 8] [(0, .pointer (some ⟨rb, 0, none⟩)), (1, .int .i64 node), (8, .bool (!(hasE now.length node)))] (by as_aux_lemma => kernel_rfl) ?_
  refine WK.cond1 (!(hasE now.length node)) (by as_aux_lemma => kernel_rfl) (by as_aux_lemma => kernel_rfl) (fun h3 => ?_) (fun h3 => ?_)
  · skip
    replace h3 : (hasE now.length node) = false := by revert h3; cases (hasE now.length node) <;> simp
    replace h3 := of_decide_eq_false h3
    refine WK.run 2 [4] [.code (cd Try.prog 22 [1, 0, 1, 0, 1]), .code (cd Try.prog 22 [2])] [(4, .int .i64 0)] (by as_aux_lemma => kernel_rfl) ?_
    refine WK.ret (v := .int .i64 0) Try.func22 (by as_aux_lemma => kernel_rfl) (by as_aux_lemma => kernel_rfl) ?_
    refine ⟨_, rfl, H.done, ?_⟩
    congr 1
    unfold nowE
    rw [if_neg (hasnt_st (by assumption))]
  · skip
    replace h3 : (hasE now.length node) = true := by revert h3; cases (hasE now.length node) <;> simp
    replace h3 := of_decide_eq_true h3
    refine WK.run 2 [0, 1] [.code (cd Try.prog 22 [2, 0]), .code (cd Try.prog 22 [3])] [(0, .pointer (some ⟨rb, 0, none⟩)), (1, .int .i64 node)] (by as_aux_lemma => kernel_rfl) ?_
    refine WK.reg1 (l := sq 0 9) (by as_aux_lemma => kernel_rfl) (by as_aux_lemma => kernel_rfl) ?_
    refine RW.runP 3 [1, 11] (sq 3 9) [(1, .int .i64 node), (11, .pointer (some ⟨rb, 0, none⟩))] (by as_aux_lemma => kernel_rfl) (by as_aux_lemma => kernel_rfl) ?_
    refine RW.load (κ := .seq) (d := some 12) (r := (sq 4 9)) (T := 22) (b := rb) (o' := 0) (k := 0) (v := .slice ra now.length rc) (by as_aux_lemma => kernel_rfl) (H.fc 0 rfl) rfl (by as_aux_lemma => kernel_rfl) ?_
    refine RW.runP 1 [12, 13] (sq 5 9) [(12, .slice ra now.length rc), (13, .int .i64 node)] (by as_aux_lemma => kernel_rfl) (by as_aux_lemma => kernel_rfl) ?_
    refine RW.wr64 (κ := .seq) (d := some 14) (r := (sq 6 9)) (t := node - 1) (by as_aux_lemma => kernel_rfl) (by omega) ?_
    have hx4 : (node - 1).toNat < now.length := by omega
    refine RW.index (κ := .seq) (d := some 15) (r := (sq 7 9)) (T := 22) (e := 3) (ik := .i64) (ix := node - 1) (sh := (Shape.int .i64)) (x := now[(node - 1).toNat]) (by as_aux_lemma => kernel_rfl) (by as_aux_lemma => kernel_rfl) H 1 rfl ((node - 1).toNat) (by omega) (List.getElem?_eq_getElem hx4) ?_
    intro b5 o6 es7 hr8 H
    have hb9 := Shape.i64_bd hr8
    obtain ⟨rfl, -⟩ := hr8
    refine RW.load (κ := .seq) (d := some 16) (r := (sq 8 9)) (T := 3) (b := b5) (o' := o6) (k := 0) (v := .int .i64 (now[(node - 1).toNat])) (by as_aux_lemma => kernel_rfl) (H.fc 0 rfl) rfl (by as_aux_lemma => kernel_rfl) ?_
    refine RW.fin 1 [4] [(4, .int .i64 (now[(node - 1).toNat]))] (by as_aux_lemma => kernel_rfl) ?_
    refine WK.ret (v := .int .i64 (now[(node - 1).toNat])) Try.func22 (by as_aux_lemma => kernel_rfl) (by as_aux_lemma => kernel_rfl) ?_
    refine ⟨_, rfl, H.done, ?_⟩
    congr 1
    unfold nowE
    rw [if_pos (has_st (by assumption)), List.getElem?_eq_getElem (by omega)]; rfl

def LeastOk (now : List Int) (i k : Nat) (least : Int) : Prop :=
  (least = -1 ∧ ∀ j, j < k → ¬ (j ≠ i ∨ now.length = 1)) ∨ (0 ≤ least ∧ (∃ j, j < k ∧ (j ≠ i ∨ now.length = 1) ∧ now[j]? = some least) ∧ ∀ j, j < k → (j ≠ i ∨ now.length = 1) → ∀ x, now[j]? = some x → least ≤ x)
theorem LeastOk.skip {now : List Int} {i k : Nat} {least : Int} (h : LeastOk now i k least) (hc : ¬ (k ≠ i ∨ now.length = 1)) : LeastOk now i (k + 1) least := by
  rcases h with ⟨h1, h2⟩ | ⟨h1, ⟨j, h2, h3⟩, h4⟩
  · exact .inl ⟨h1, fun j hj => by
      rcases Nat.lt_or_ge j k with hlt | hge
      · exact h2 j hlt
      · obtain rfl : j = k := by omega
        exact hc⟩
  · refine .inr ⟨h1, ⟨j, by omega, h3⟩, fun q hq hqc => ?_⟩
    rcases Nat.lt_or_ge q k with hlt | hge
    · exact h4 q hlt hqc
    · obtain rfl : q = k := by omega
      exact absurd hqc hc
theorem LeastOk.keep {now : List Int} {i k : Nat} {least : Int} (h : LeastOk now i k least) (hk : k < now.length) (h0 : ¬ least < 0) (hl : ¬ now[k] < least) : LeastOk now i (k + 1) least := by
  rcases h with ⟨h1, h2⟩ | ⟨h1, ⟨j, h2, h3⟩, h4⟩
  · omega
  · refine .inr ⟨h1, ⟨j, by omega, h3⟩, fun q hq hqc x hx => ?_⟩
    rcases Nat.lt_or_ge q k with hlt | hge
    · exact h4 q hlt hqc x hx
    · obtain rfl : q = k := by omega
      rw [List.getElem?_eq_getElem hk] at hx
      cases hx
      omega
theorem LeastOk.take {now : List Int} {i k : Nat} {least : Int} (h : LeastOk now i k least) (hk : k < now.length) (h0 : 0 ≤ now[k]) (hc : k ≠ i ∨ now.length = 1) (hl : least < 0 ∨ now[k] < least) : LeastOk now i (k + 1) now[k] := by
  refine .inr ⟨h0, ⟨k, by omega, hc, List.getElem?_eq_getElem hk⟩, fun q hq hqc x hx => ?_⟩
  rcases Nat.lt_or_ge q k with hlt | hge
  · rcases h with ⟨h1, h2⟩ | ⟨h1, _, h4⟩
    · exact absurd hqc (h2 q hlt)
    · have := h4 q hlt hqc x hx
      omega
  · obtain rfl : q = k := by omega
    rw [List.getElem?_eq_getElem hk] at hx
    cases hx
    exact Int.le_refl _
theorem minOf_le' {l : List Int} {x : Int} (h : x ∈ l) : minOf l ≤ x := by
  have hf : ∀ (l : List Int) (a x : Int), (x = a ∨ x ∈ l) → l.foldl (fun m y => if y < m then y else m) a ≤ x := by
    intro l
    induction l with
    | nil =>
      intro a x h
      rcases h with h | h
      · subst h; exact Int.le_refl _
      · cases h
    | cons y l ih =>
      intro a x h
      show l.foldl (fun m y => if y < m then y else m) (if y < a then y else a) ≤ x
      have hb := ih (if y < a then y else a) (if y < a then y else a) (.inl rfl)
      rcases h with h | h
      · subst h
        refine Int.le_trans hb ?_
        split <;> omega
      · rcases List.mem_cons.1 h with h | h
        · subst h
          refine Int.le_trans hb ?_
          split <;> omega
        · exact ih _ x (.inr h)
  cases l with
  | nil => cases h
  | cons a l => exact hf l a x (by rcases List.mem_cons.1 h with h | h; exact .inl h; exact .inr h)
theorem others_mem' {now : List Int} {i j : Nat} (hj : j < now.length) (h : j ≠ i ∨ now.length = 1) : now[j] ∈ othersOf now i := by
  unfold othersOf
  split
  · have hji : j ≠ i := by omega
    rcases Nat.lt_or_ge j i with hlt | hge
    · refine List.mem_append_left _ (List.mem_iff_getElem?.2 ⟨j, ?_⟩)
      rw [List.getElem?_take, if_pos hlt, List.getElem?_eq_getElem hj]
    · refine List.mem_append_right _ (List.mem_iff_getElem?.2 ⟨j - (i + 1), ?_⟩)
      rw [List.getElem?_drop, show i + 1 + (j - (i + 1)) = j by omega, List.getElem?_eq_getElem hj]
  · exact List.getElem_mem hj
theorem others_idx {now : List Int} {i : Nat} {x : Int} (h : x ∈ othersOf now i) (hi : i < now.length) : ∃ j, j < now.length ∧ (j ≠ i ∨ now.length = 1) ∧ now[j]? = some x := by
  unfold othersOf at h
  split at h
  · rcases List.mem_append.1 h with h | h
    · obtain ⟨j, hj⟩ := List.mem_iff_getElem?.1 h
      rw [List.getElem?_take] at hj
      split at hj
      · exact ⟨j, by omega, .inl (by omega), hj⟩
      · cases hj
    · obtain ⟨j, hj⟩ := List.mem_iff_getElem?.1 h
      rw [List.getElem?_drop] at hj
      have := (List.getElem?_eq_some_iff.1 hj).1
      exact ⟨i + 1 + j, this, .inl (by omega), hj⟩
  · obtain ⟨j, hj⟩ := List.mem_iff_getElem?.1 h
    have := (List.getElem?_eq_some_iff.1 hj).1
    exact ⟨j, this, .inr (by omega), hj⟩
theorem LeastOk.fin {now : List Int} {i : Nat} {least : Int} (h : LeastOk now i now.length least) (hi : i < now.length) : least = minOf (othersOf now i) := by
  obtain ⟨j, hj, hjc, hjx⟩ := others_idx (minOf_mem (others_pos hi)) hi
  rcases h with ⟨_, h2⟩ | ⟨_, ⟨q, hq, hqc, hqx⟩, h4⟩
  · exact absurd hjc (h2 j hj)
  · have h1 := h4 j hj hjc _ hjx
    have h2 := minOf_le' (others_mem' hq hqc)
    rw [List.getElem?_eq_getElem hq] at hqx
    cases hqx
    omega

theorem rmay_in {S : Nat → Prop} {w : World} {rb rc tn rtc : Nat} {ra rta : Option Addr} {now : List Int} {num den slack : Int} (hF : (Fc rb 0 [.slice ra now.length rc, .int .i64 num, .int .i64 den, .int .i64 slack, .slice rta tn rtc]).p S w) (hN : (Shape.slice (Shape.int .i64)).rep S w [.slice ra now.length rc] now) (hC : COk now num den slack) {i : Nat} (hi : i < now.length) :
    Calls Try.prog 15 #[.pointer (some ⟨rb, 0, none⟩), .int .i64 ((i : Int) + 1)] w (Ret fun v w' => Ext w w' ∧ v = .bool (mayI now num den slack i)) := by
  have hnl := hC.hlen
  obtain ⟨hnum1, hnum2⟩ := hC.hnum
  obtain ⟨hsl1, hsl2⟩ := hC.hsl
  have hden := hC.hden
  have hnow : now[i]? = some now[i] := List.getElem?_eq_getElem hi
  obtain ⟨hn0, hn1⟩ := hC.hnow now[i] (List.getElem_mem hi)
  have hp1 := prod_bd (a := now[i] + 1) (b := den) (A := 1048577) (B := 1000) ⟨by omega, by omega⟩ ⟨by omega, by omega⟩
  have hp2 := prod_bd (a := den) (b := slack) (A := 1000) (B := 1000) ⟨by omega, by omega⟩ ⟨by omega, by omega⟩
  have hm := hC.hnow _ (others_sub (minOf_mem (others_pos hi)))
  have hp3 := prod_bd (a := num) (b := minOf (othersOf now i)) (A := 1000) (B := 1048576) ⟨by omega, by omega⟩ hm
  refine WK.calls1 (fn := Try.f15) (n := 103) (σ := [(0, .pointer (some ⟨rb, 0, none⟩)), (1, .int .i64 ((i : Int) + 1))]) Try.func15 rfl (by as_aux_lemma => kernel_rfl) (by as_aux_lemma => kernel_rfl) (by as_aux_lemma => kernel_rfl) ?_
  have H := Hp.startF (w := w) (S := S) (G := [Fc rb 0 [.slice ra now.length rc, .int .i64 num, .int .i64 den, .int .i64 slack, .slice rta tn rtc], Rp (Shape.slice (Shape.int .i64)) [.slice ra now.length rc] now]) (.cons hF (.rp hN .nil))
  refine WK.run 4 [0, 1] [.code (cd Try.prog 15 [1, 0, 0]), .code (cd Try.prog 15 [1, 0, 1]), .code (cd Try.prog 15 [2])] [(0, .pointer (some ⟨rb, 0, none⟩)), (1, .int .i64 ((i : Int) + 1))] (by as_aux_lemma => kernel_rfl) ?_
  refine WK.reg1 (l := sq 0 15) (by as_aux_lemma => kernel_rfl) (by as_aux_lemma => kernel_rfl) ?_
  refine RW.runP 2 [0, 1, 8, 9] (sq 2 15) [(0, .pointer (some ⟨rb, 0, none⟩)), (1, .int .i64 ((i : Int) + 1)), (8, .pointer (some ⟨rb, 0, none⟩)), (9, .int .i64 ((i : Int) + 1))] (by as_aux_lemma => kernel_rfl) (by as_aux_lemma => kernel_rfl) ?_
  refine RW.call (κ := .seq) (d := some 10) (r := (sq 3 15)) (g := 31) (args := #[.pointer (some ⟨rb, 0, none⟩), .int .i64 ((i : Int) + 1)]) (by as_aux_lemma => kernel_rfl) (nofun) (has_spec (S := fun _ => True) (now := now) (H.viewF 0 rfl) ((i : Int) + 1)) ?_
  rintro _ w1 hE2 rfl
  have H := H.ext hE2
  rw [show hasE now.length ((i : Int) + 1) = true from decide_eq_true (by omega)]
  refine RW.runP 5 [0, 1, 12, 15] (sq 8 15) [(0, .pointer (some ⟨rb, 0, none⟩)), (1, .int .i64 ((i : Int) + 1)), (12, .bool false), (15, .pointer (some ⟨rb, 0, none⟩))] (by as_aux_lemma => kernel_rfl) (by as_aux_lemma => kernel_rfl) ?_
  refine RW.load (κ := .seq) (d := some 16) (r := (sq 9 15)) (T := 22) (b := rb) (o' := 0) (k := 0) (v := .slice ra now.length rc) (by as_aux_lemma => kernel_rfl) (H.fc 0 rfl) rfl (by as_aux_lemma => kernel_rfl) ?_
  refine RW.runP 1 [0, 1, 12, 16, 17] (sq 10 15) [(0, .pointer (some ⟨rb, 0, none⟩)), (1, .int .i64 ((i : Int) + 1)), (12, .bool false), (16, .slice ra now.length rc), (17, .int .i64 ((i : Int) + 1))] (by as_aux_lemma => kernel_rfl) (by as_aux_lemma => kernel_rfl) ?_
  refine RW.pv (κ := .seq) (d := some 18) (r := (sq 11 15)) (v' := .int .i64 (i : Int)) (v := .int .i64 (IntKind.i64.wrap (((i : Int) + 1) - 1))) (by as_aux_lemma => kernel_rfl) (by rw [IntKind.wrap_i64]; congr 1; omega) ?_
  have hx3 : i < now.length := by omega
  refine RW.index (κ := .seq) (d := some 19) (r := (sq 12 15)) (T := 22) (e := 3) (ik := .i64) (ix := (i : Int)) (sh := (Shape.int .i64)) (x := now[i]) (by as_aux_lemma => kernel_rfl) (by as_aux_lemma => kernel_rfl) H 1 rfl i (by omega) (List.getElem?_eq_getElem hx3) ?_
  intro b4 o5 es6 hr7 H
  have hb8 := Shape.i64_bd hr7
  obtain ⟨rfl, -⟩ := hr7
  refine RW.load (κ := .seq) (d := some 20) (r := (sq 13 15)) (T := 3) (b := b4) (o' := o5) (k := 0) (v := .int .i64 (now[i])) (by as_aux_lemma => kernel_rfl) (H.fc 0 rfl) rfl (by as_aux_lemma => kernel_rfl) ?_
  refine RW.fin 2 [0, 1, 22] [(0, .pointer (some ⟨rb, 0, none⟩)), (1, .int .i64 ((i : Int) + 1)), (22, .bool (decide ((now[i] : Int) ≥ 1048576)))] (by as_aux_lemma => kernel_rfl) ?_
  refine WK.cond1 (decide ((now[i] : Int) ≥ 1048576)) (by as_aux_lemma => kernel_rfl) (by as_aux_lemma => kernel_rfl) (fun h9 => ?_) (fun h9 => ?_)
  · skip
    replace h9 := of_decide_eq_true h9
    refine WK.run 2 [4] [.code (cd Try.prog 15 [1, 0, 1, 0, 1]), .code (cd Try.prog 15 [2])] [(4, .bool false)] (by as_aux_lemma => kernel_rfl) ?_
    refine WK.ret (v := .bool false) Try.func15 (by as_aux_lemma => kernel_rfl) (by as_aux_lemma => kernel_rfl) ?_
    refine ⟨_, rfl, H.done, ?_⟩
    congr 1
    unfold mayI
    rw [hnow, Option.getD_some]
    exact (decide_eq_false fun h => by omega).symm
  · skip
    replace h9 := of_decide_eq_false h9
    refine WK.run 7 [0, 1, 5, 6] [.code (cd Try.prog 15 [3, 0, 1, 0]), .inBlock 0, .code (cd Try.prog 15 [4])] [(0, .pointer (some ⟨rb, 0, none⟩)), (1, .int .i64 ((i : Int) + 1)), (5, .int .i64 (-1)), (6, .int .i64 0)] (by as_aux_lemma => kernel_rfl) ?_
    refine WK.loop (α := Nat × Int) (b := cd Try.prog 15 [3, 0, 1, 0, 0]) (by as_aux_lemma => kernel_rfl) (fun st_ => match st_ with | (k, least) => [(0, .pointer (some ⟨rb, 0, none⟩)), (1, .int .i64 ((i : Int) + 1)), (5, .int .i64 least), (6, .int .i64 (k : Int))]) (fun st_ w' => match st_ with | (k, least) => Hp w S [] [] [] [Fc b4 o5 [.int .i64 (now[i])], Fc rb 0 [.slice ra now.length rc, .int .i64 num, .int .i64 den, .int .i64 slack, .slice rta tn rtc], Rp (Shape.slice (Shape.int .i64)) [.slice ra now.length rc] now] w' ∧ k ≤ now.length ∧ LeastOk now i k least) (fun st_ => match st_ with | (k, least) => now.length - k) (0, (-1)) ⟨H, by omega, .inl ⟨rfl, fun j hj => by omega⟩⟩ (rfl) ?_
    rintro ⟨k, least⟩ w11 ⟨H, hinv0⟩ hback10
    refine WK.run 2 [0, 1, 5, 6] [.code (cd Try.prog 15 [3, 0, 1, 0, 0, 0, 0]), .code (cd Try.prog 15 [3, 0, 1, 0, 0, 0, 1]), .code (cd Try.prog 15 [3, 0, 1, 0, 0, 1]), .inLoop (cd Try.prog 15 [3, 0, 1, 0, 0]), .inBlock 0, .code (cd Try.prog 15 [4])] [(0, .pointer (some ⟨rb, 0, none⟩)), (1, .int .i64 ((i : Int) + 1)), (5, .int .i64 least), (6, .int .i64 (k : Int))] (by as_aux_lemma => kernel_rfl) ?_
    refine WK.reg1 (l := sq 0 7) (by as_aux_lemma => kernel_rfl) (by as_aux_lemma => kernel_rfl) ?_
    refine RW.runP 4 [0, 1, 5, 6, 23, 26] (sq 4 7) [(0, .pointer (some ⟨rb, 0, none⟩)), (1, .int .i64 ((i : Int) + 1)), (5, .int .i64 least), (6, .int .i64 (k : Int)), (23, .int .i64 (k : Int)), (26, .pointer (some ⟨rb, 0, none⟩))] (by as_aux_lemma => kernel_rfl) (by as_aux_lemma => kernel_rfl) ?_
    refine RW.load (κ := .seq) (d := some 27) (r := (sq 5 7)) (T := 22) (b := rb) (o' := 0) (k := 0) (v := .slice ra now.length rc) (by as_aux_lemma => kernel_rfl) (H.fc 1 rfl) rfl (by as_aux_lemma => kernel_rfl) ?_
    refine RW.fin 2 [0, 1, 5, 6, 29] [(0, .pointer (some ⟨rb, 0, none⟩)), (1, .int .i64 ((i : Int) + 1)), (5, .int .i64 least), (6, .int .i64 (k : Int)), (29, .bool (decide (((k : Int) : Int) < ((now.length : Nat) : Int))))] (by as_aux_lemma => kernel_rfl) ?_
    refine WK.cond1 (decide (((k : Int) : Int) < ((now.length : Nat) : Int))) (by as_aux_lemma => kernel_rfl) (by as_aux_lemma => kernel_rfl) (fun h12 => ?_) (fun h12 => ?_)
    · skip
      replace h12 := of_decide_eq_true h12
      have hkl : k < now.length := by omega
      have hk0 := hC.hnow now[k] (List.getElem_mem hkl)
      refine WK.run 4 [0, 1, 5, 6] [.code (cd Try.prog 15 [3, 0, 1, 0, 0, 1, 0, 0, 0]), .code (cd Try.prog 15 [3, 0, 1, 0, 0, 1, 0, 0, 1]), .inBlock 1, .code (cd Try.prog 15 [3, 0, 1, 0, 0, 2]), .inLoop (cd Try.prog 15 [3, 0, 1, 0, 0]), .inBlock 0, .code (cd Try.prog 15 [4])] [(0, .pointer (some ⟨rb, 0, none⟩)), (1, .int .i64 ((i : Int) + 1)), (5, .int .i64 least), (6, .int .i64 (k : Int))] (by as_aux_lemma => kernel_rfl) ?_
      refine WK.reg1 (l := sq 0 27) (by as_aux_lemma => kernel_rfl) (by as_aux_lemma => kernel_rfl) ?_
      refine RW.runP 2 [0, 1, 5, 6, 32, 33] (sq 2 27) [(0, .pointer (some ⟨rb, 0, none⟩)), (1, .int .i64 ((i : Int) + 1)), (5, .int .i64 least), (6, .int .i64 (k : Int)), (32, .int .i64 (k : Int)), (33, .int .i64 ((i : Int) + 1))] (by as_aux_lemma => kernel_rfl) (by as_aux_lemma => kernel_rfl) ?_
      refine RW.pv (κ := .seq) (d := some 34) (r := (sq 3 27)) (v' := .int .i64 (i : Int)) (v := .int .i64 (IntKind.i64.wrap (((i : Int) + 1) - 1))) (by as_aux_lemma => kernel_rfl) (by rw [IntKind.wrap_i64]; congr 1; omega) ?_
      refine RW.runP 2 [0, 1, 5, 6, 36] (sq 5 27) [(0, .pointer (some ⟨rb, 0, none⟩)), (1, .int .i64 ((i : Int) + 1)), (5, .int .i64 least), (6, .int .i64 (k : Int)), (36, .bool ((k : Int) != (i : Int)))] (by as_aux_lemma => kernel_rfl) (by as_aux_lemma => kernel_rfl) ?_
      refine RW.test (fun b_ => [(0, .pointer (some ⟨rb, 0, none⟩)), (1, .int .i64 ((i : Int) + 1)), (5, .int .i64 least), (6, .int .i64 (k : Int)), (36, .bool b_)]) ((k : Int) != (i : Int)) (fun h13 => ?_) (fun h13 => ?_)
      · skip
        replace h13 := bne_iff_ne.1 h13
        refine RW.runP 11 [0, 1, 5, 6, 44, 47] (sq 16 27) [(0, .pointer (some ⟨rb, 0, none⟩)), (1, .int .i64 ((i : Int) + 1)), (5, .int .i64 least), (6, .int .i64 (k : Int)), (44, .bool true), (47, .bool (decide ((least : Int) < 0)))] (by as_aux_lemma => kernel_rfl) (by as_aux_lemma => kernel_rfl) ?_
        refine RW.test (fun b_ => [(0, .pointer (some ⟨rb, 0, none⟩)), (1, .int .i64 ((i : Int) + 1)), (5, .int .i64 least), (6, .int .i64 (k : Int)), (44, .bool true), (47, .bool b_)]) (decide ((least : Int) < 0)) (fun h14 => ?_) (fun h14 => ?_)
        · skip
          replace h14 := of_decide_eq_true h14
          refine RW.fin 11 [0, 1, 5, 6, 58] [(0, .pointer (some ⟨rb, 0, none⟩)), (1, .int .i64 ((i : Int) + 1)), (5, .int .i64 least), (6, .int .i64 (k : Int)), (58, .bool true)] (by as_aux_lemma => kernel_rfl) ?_
          refine WK.run 1 [0, 1, 6] [.code (cd Try.prog 15 [3, 0, 1, 0, 0, 1, 0, 0, 1, 0]), .inBlock 1, .code (cd Try.prog 15 [3, 0, 1, 0, 0, 2]), .inLoop (cd Try.prog 15 [3, 0, 1, 0, 0]), .inBlock 0, .code (cd Try.prog 15 [4])] [(0, .pointer (some ⟨rb, 0, none⟩)), (1, .int .i64 ((i : Int) + 1)), (6, .int .i64 (k : Int))] (by as_aux_lemma => kernel_rfl) ?_
          refine WK.reg1 (l := sq 0 8) (by as_aux_lemma => kernel_rfl) (by as_aux_lemma => kernel_rfl) ?_
          refine RW.runP 3 [0, 1, 6, 61] (sq 3 8) [(0, .pointer (some ⟨rb, 0, none⟩)), (1, .int .i64 ((i : Int) + 1)), (6, .int .i64 (k : Int)), (61, .pointer (some ⟨rb, 0, none⟩))] (by as_aux_lemma => kernel_rfl) (by as_aux_lemma => kernel_rfl) ?_
          refine RW.load (κ := .seq) (d := some 62) (r := (sq 4 8)) (T := 22) (b := rb) (o' := 0) (k := 0) (v := .slice ra now.length rc) (by as_aux_lemma => kernel_rfl) (H.fc 1 rfl) rfl (by as_aux_lemma => kernel_rfl) ?_
          refine RW.runP 1 [0, 1, 6, 62, 63] (sq 5 8) [(0, .pointer (some ⟨rb, 0, none⟩)), (1, .int .i64 ((i : Int) + 1)), (6, .int .i64 (k : Int)), (62, .slice ra now.length rc), (63, .int .i64 (k : Int))] (by as_aux_lemma => kernel_rfl) (by as_aux_lemma => kernel_rfl) ?_
          have hx15 : k < now.length := by omega
          refine RW.index (κ := .seq) (d := some 64) (r := (sq 6 8)) (T := 22) (e := 3) (ik := .i64) (ix := (k : Int)) (sh := (Shape.int .i64)) (x := now[k]) (by as_aux_lemma => kernel_rfl) (by as_aux_lemma => kernel_rfl) H 2 rfl k (by omega) (List.getElem?_eq_getElem hx15) ?_
          intro b16 o17 es18 hr19 H
          have hb20 := Shape.i64_bd hr19
          obtain ⟨rfl, -⟩ := hr19
          refine RW.load (κ := .seq) (d := some 65) (r := (sq 7 8)) (T := 3) (b := b16) (o' := o17) (k := 0) (v := .int .i64 (now[k])) (by as_aux_lemma => kernel_rfl) (H.fc 0 rfl) rfl (by as_aux_lemma => kernel_rfl) ?_
          refine RW.fin 1 [0, 1, 5, 6] [(0, .pointer (some ⟨rb, 0, none⟩)), (1, .int .i64 ((i : Int) + 1)), (5, .int .i64 (now[k])), (6, .int .i64 (k : Int))] (by as_aux_lemma => kernel_rfl) ?_
          refine WK.run 1 [0, 1, 5, 6] [.code (cd Try.prog 15 [3, 0, 1, 0, 0, 2]), .inLoop (cd Try.prog 15 [3, 0, 1, 0, 0]), .inBlock 0, .code (cd Try.prog 15 [4])] [(0, .pointer (some ⟨rb, 0, none⟩)), (1, .int .i64 ((i : Int) + 1)), (5, .int .i64 (now[k])), (6, .int .i64 (k : Int))] (by as_aux_lemma => kernel_rfl) ?_
          refine WK.reg1 (l := sq 0 3) (by as_aux_lemma => kernel_rfl) (by as_aux_lemma => kernel_rfl) ?_
          refine RW.runP 1 [0, 1, 5, 6, 30] (sq 1 3) [(0, .pointer (some ⟨rb, 0, none⟩)), (1, .int .i64 ((i : Int) + 1)), (5, .int .i64 (now[k])), (6, .int .i64 (k : Int)), (30, .int .i64 (k : Int))] (by as_aux_lemma => kernel_rfl) (by as_aux_lemma => kernel_rfl) ?_
          refine RW.wr64 (κ := .seq) (d := some 31) (r := (sq 2 3)) (t := (k : Int) + 1) (by as_aux_lemma => kernel_rfl) (by omega) ?_
          refine RW.fin 1 [0, 1, 5, 6] [(0, .pointer (some ⟨rb, 0, none⟩)), (1, .int .i64 ((i : Int) + 1)), (5, .int .i64 (now[k])), (6, .int .i64 ((k : Int) + 1))] (by as_aux_lemma => kernel_rfl) ?_
          have H := H.pick [1, 2, 3] (G' := [Fc b4 o5 [.int .i64 (now[i])], Fc rb 0 [.slice ra now.length rc, .int .i64 num, .int .i64 den, .int .i64 slack, .slice rta tn rtc], Rp (Shape.slice (Shape.int .i64)) [.slice ra now.length rc] now]) rfl
          exact WK.back (hback10 (k + 1, now[k]) _ ⟨H, by omega, by first | exact hinv0.2.take hkl hk0.1 (by omega) (by omega) | exact hinv0.2.keep hkl (by omega) (by omega) | exact hinv0.2.skip (by omega)⟩ (by simp only []; omega)) (by as_aux_lemma => kernel_rfl)
        · skip
          replace h14 := of_decide_eq_false h14
          refine RW.runP 3 [0, 1, 5, 6, 44, 47, 50] (sq 19 27) [(0, .pointer (some ⟨rb, 0, none⟩)), (1, .int .i64 ((i : Int) + 1)), (5, .int .i64 least), (6, .int .i64 (k : Int)), (44, .bool true), (47, .bool false), (50, .pointer (some ⟨rb, 0, none⟩))] (by as_aux_lemma => kernel_rfl) (by as_aux_lemma => kernel_rfl) ?_
          refine RW.load (κ := .seq) (d := some 51) (r := (sq 20 27)) (T := 22) (b := rb) (o' := 0) (k := 0) (v := .slice ra now.length rc) (by as_aux_lemma => kernel_rfl) (H.fc 1 rfl) rfl (by as_aux_lemma => kernel_rfl) ?_
          refine RW.runP 1 [0, 1, 5, 6, 44, 47, 51, 52] (sq 21 27) [(0, .pointer (some ⟨rb, 0, none⟩)), (1, .int .i64 ((i : Int) + 1)), (5, .int .i64 least), (6, .int .i64 (k : Int)), (44, .bool true), (47, .bool false), (51, .slice ra now.length rc), (52, .int .i64 (k : Int))] (by as_aux_lemma => kernel_rfl) (by as_aux_lemma => kernel_rfl) ?_
          have hx21 : k < now.length := by omega
          refine RW.index (κ := .seq) (d := some 53) (r := (sq 22 27)) (T := 22) (e := 3) (ik := .i64) (ix := (k : Int)) (sh := (Shape.int .i64)) (x := now[k]) (by as_aux_lemma => kernel_rfl) (by as_aux_lemma => kernel_rfl) H 2 rfl k (by omega) (List.getElem?_eq_getElem hx21) ?_
          intro b22 o23 es24 hr25 H
          have hb26 := Shape.i64_bd hr25
          obtain ⟨rfl, -⟩ := hr25
          refine RW.load (κ := .seq) (d := some 54) (r := (sq 23 27)) (T := 3) (b := b22) (o' := o23) (k := 0) (v := .int .i64 (now[k])) (by as_aux_lemma => kernel_rfl) (H.fc 0 rfl) rfl (by as_aux_lemma => kernel_rfl) ?_
          refine RW.fin 4 [0, 1, 5, 6, 58] [(0, .pointer (some ⟨rb, 0, none⟩)), (1, .int .i64 ((i : Int) + 1)), (5, .int .i64 least), (6, .int .i64 (k : Int)), (58, .bool (decide ((now[k] : Int) < least)))] (by as_aux_lemma => kernel_rfl) ?_
          refine WK.cond1 (decide ((now[k] : Int) < least)) (by as_aux_lemma => kernel_rfl) (by as_aux_lemma => kernel_rfl) (fun h27 => ?_) (fun h27 => ?_)
          · skip
            replace h27 := of_decide_eq_true h27
            refine WK.reg1 (l := sq 0 8) (by as_aux_lemma => kernel_rfl) (by as_aux_lemma => kernel_rfl) ?_
            refine RW.runP 3 [0, 1, 5, 6, 61] (sq 3 8) [(0, .pointer (some ⟨rb, 0, none⟩)), (1, .int .i64 ((i : Int) + 1)), (5, .int .i64 least), (6, .int .i64 (k : Int)), (61, .pointer (some ⟨rb, 0, none⟩))] (by as_aux_lemma => kernel_rfl) (by as_aux_lemma => kernel_rfl) ?_
            refine RW.load (κ := .seq) (d := some 62) (r := (sq 4 8)) (T := 22) (b := rb) (o' := 0) (k := 0) (v := .slice ra now.length rc) (by as_aux_lemma => kernel_rfl) (H.fc 2 rfl) rfl (by as_aux_lemma => kernel_rfl) ?_
            refine RW.runP 1 [0, 1, 5, 6, 62, 63] (sq 5 8) [(0, .pointer (some ⟨rb, 0, none⟩)), (1, .int .i64 ((i : Int) + 1)), (5, .int .i64 least), (6, .int .i64 (k : Int)), (62, .slice ra now.length rc), (63, .int .i64 (k : Int))] (by as_aux_lemma => kernel_rfl) (by as_aux_lemma => kernel_rfl) ?_
            have hx28 : k < now.length := by omega
            refine RW.index (κ := .seq) (d := some 64) (r := (sq 6 8)) (T := 22) (e := 3) (ik := .i64) (ix := (k : Int)) (sh := (Shape.int .i64)) (x := now[k]) (by as_aux_lemma => kernel_rfl) (by as_aux_lemma => kernel_rfl) H 3 rfl k (by omega) (List.getElem?_eq_getElem hx28) ?_
            intro b29 o30 es31 hr32 H
            have hb33 := Shape.i64_bd hr32
            obtain ⟨rfl, -⟩ := hr32
            refine RW.load (κ := .seq) (d := some 65) (r := (sq 7 8)) (T := 3) (b := b29) (o' := o30) (k := 0) (v := .int .i64 (now[k])) (by as_aux_lemma => kernel_rfl) (H.fc 0 rfl) rfl (by as_aux_lemma => kernel_rfl) ?_
            refine RW.fin 1 [0, 1, 5, 6] [(0, .pointer (some ⟨rb, 0, none⟩)), (1, .int .i64 ((i : Int) + 1)), (5, .int .i64 (now[k])), (6, .int .i64 (k : Int))] (by as_aux_lemma => kernel_rfl) ?_
            refine WK.run 1 [0, 1, 5, 6] [.code (cd Try.prog 15 [3, 0, 1, 0, 0, 2]), .inLoop (cd Try.prog 15 [3, 0, 1, 0, 0]), .inBlock 0, .code (cd Try.prog 15 [4])] [(0, .pointer (some ⟨rb, 0, none⟩)), (1, .int .i64 ((i : Int) + 1)), (5, .int .i64 (now[k])), (6, .int .i64 (k : Int))] (by as_aux_lemma => kernel_rfl) ?_
            refine WK.reg1 (l := sq 0 3) (by as_aux_lemma => kernel_rfl) (by as_aux_lemma => kernel_rfl) ?_
            refine RW.runP 1 [0, 1, 5, 6, 30] (sq 1 3) [(0, .pointer (some ⟨rb, 0, none⟩)), (1, .int .i64 ((i : Int) + 1)), (5, .int .i64 (now[k])), (6, .int .i64 (k : Int)), (30, .int .i64 (k : Int))] (by as_aux_lemma => kernel_rfl) (by as_aux_lemma => kernel_rfl) ?_
            refine RW.wr64 (κ := .seq) (d := some 31) (r := (sq 2 3)) (t := (k : Int) + 1) (by as_aux_lemma => kernel_rfl) (by omega) ?_
            refine RW.fin 1 [0, 1, 5, 6] [(0, .pointer (some ⟨rb, 0, none⟩)), (1, .int .i64 ((i : Int) + 1)), (5, .int .i64 (now[k])), (6, .int .i64 ((k : Int) + 1))] (by as_aux_lemma => kernel_rfl) ?_
            have H := H.pick [2, 3, 4] (G' := [Fc b4 o5 [.int .i64 (now[i])], Fc rb 0 [.slice ra now.length rc, .int .i64 num, .int .i64 den, .int .i64 slack, .slice rta tn rtc], Rp (Shape.slice (Shape.int .i64)) [.slice ra now.length rc] now]) rfl
            exact WK.back (hback10 (k + 1, now[k]) _ ⟨H, by omega, by first | exact hinv0.2.take hkl hk0.1 (by omega) (by omega) | exact hinv0.2.keep hkl (by omega) (by omega) | exact hinv0.2.skip (by omega)⟩ (by simp only []; omega)) (by as_aux_lemma => kernel_rfl)
          · skip
            replace h27 := of_decide_eq_false h27
            refine WK.run 2 [0, 1, 5, 6] [.code (cd Try.prog 15 [3, 0, 1, 0, 0, 2]), .inLoop (cd Try.prog 15 [3, 0, 1, 0, 0]), .inBlock 0, .code (cd Try.prog 15 [4])] [(0, .pointer (some ⟨rb, 0, none⟩)), (1, .int .i64 ((i : Int) + 1)), (5, .int .i64 least), (6, .int .i64 (k : Int))] (by as_aux_lemma => kernel_rfl) ?_
            refine WK.reg1 (l := sq 0 3) (by as_aux_lemma => kernel_rfl) (by as_aux_lemma => kernel_rfl) ?_
            refine RW.runP 1 [0, 1, 5, 6, 30] (sq 1 3) [(0, .pointer (some ⟨rb, 0, none⟩)), (1, .int .i64 ((i : Int) + 1)), (5, .int .i64 least), (6, .int .i64 (k : Int)), (30, .int .i64 (k : Int))] (by as_aux_lemma => kernel_rfl) (by as_aux_lemma => kernel_rfl) ?_
            refine RW.wr64 (κ := .seq) (d := some 31) (r := (sq 2 3)) (t := (k : Int) + 1) (by as_aux_lemma => kernel_rfl) (by omega) ?_
            refine RW.fin 1 [0, 1, 5, 6] [(0, .pointer (some ⟨rb, 0, none⟩)), (1, .int .i64 ((i : Int) + 1)), (5, .int .i64 least), (6, .int .i64 ((k : Int) + 1))] (by as_aux_lemma => kernel_rfl) ?_
            have H := H.pick [1, 2, 3] (G' := [Fc b4 o5 [.int .i64 (now[i])], Fc rb 0 [.slice ra now.length rc, .int .i64 num, .int .i64 den, .int .i64 slack, .slice rta tn rtc], Rp (Shape.slice (Shape.int .i64)) [.slice ra now.length rc] now]) rfl
            exact WK.back (hback10 (k + 1, least) _ ⟨H, by omega, by first | exact hinv0.2.take hkl hk0.1 (by omega) (by omega) | exact hinv0.2.keep hkl (by omega) (by omega) | exact hinv0.2.skip (by omega)⟩ (by simp only []; omega)) (by as_aux_lemma => kernel_rfl)
      · skip
        replace h13 := (bne_eq_false_iff_eq.1 h13)
        refine RW.runP 3 [0, 1, 5, 6, 36, 39] (sq 8 27) [(0, .pointer (some ⟨rb, 0, none⟩)), (1, .int .i64 ((i : Int) + 1)), (5, .int .i64 least), (6, .int .i64 (k : Int)), (36, .bool false), (39, .pointer (some ⟨rb, 0, none⟩))] (by as_aux_lemma => kernel_rfl) (by as_aux_lemma => kernel_rfl) ?_
        refine RW.load (κ := .seq) (d := some 40) (r := (sq 9 27)) (T := 22) (b := rb) (o' := 0) (k := 0) (v := .slice ra now.length rc) (by as_aux_lemma => kernel_rfl) (H.fc 1 rfl) rfl (by as_aux_lemma => kernel_rfl) ?_
        refine RW.runP 4 [0, 1, 5, 6, 44] (sq 13 27) [(0, .pointer (some ⟨rb, 0, none⟩)), (1, .int .i64 ((i : Int) + 1)), (5, .int .i64 least), (6, .int .i64 (k : Int)), (44, .bool (((now.length : Nat) : Int) == 1))] (by as_aux_lemma => kernel_rfl) (by as_aux_lemma => kernel_rfl) ?_
        refine RW.test (fun b_ => [(0, .pointer (some ⟨rb, 0, none⟩)), (1, .int .i64 ((i : Int) + 1)), (5, .int .i64 least), (6, .int .i64 (k : Int)), (44, .bool b_)]) (((now.length : Nat) : Int) == 1) (fun h34 => ?_) (fun h34 => ?_)
        · skip
          replace h34 := eq_of_beq h34
          refine RW.runP 3 [0, 1, 5, 6, 44, 47] (sq 16 27) [(0, .pointer (some ⟨rb, 0, none⟩)), (1, .int .i64 ((i : Int) + 1)), (5, .int .i64 least), (6, .int .i64 (k : Int)), (44, .bool true), (47, .bool (decide ((least : Int) < 0)))] (by as_aux_lemma => kernel_rfl) (by as_aux_lemma => kernel_rfl) ?_
          refine RW.test (fun b_ => [(0, .pointer (some ⟨rb, 0, none⟩)), (1, .int .i64 ((i : Int) + 1)), (5, .int .i64 least), (6, .int .i64 (k : Int)), (44, .bool true), (47, .bool b_)]) (decide ((least : Int) < 0)) (fun h35 => ?_) (fun h35 => ?_)
          · skip
            replace h35 := of_decide_eq_true h35
            refine RW.fin 11 [0, 1, 5, 6, 58] [(0, .pointer (some ⟨rb, 0, none⟩)), (1, .int .i64 ((i : Int) + 1)), (5, .int .i64 least), (6, .int .i64 (k : Int)), (58, .bool true)] (by as_aux_lemma => kernel_rfl) ?_
            refine WK.run 1 [0, 1, 6] [.code (cd Try.prog 15 [3, 0, 1, 0, 0, 1, 0, 0, 1, 0]), .inBlock 1, .code (cd Try.prog 15 [3, 0, 1, 0, 0, 2]), .inLoop (cd Try.prog 15 [3, 0, 1, 0, 0]), .inBlock 0, .code (cd Try.prog 15 [4])] [(0, .pointer (some ⟨rb, 0, none⟩)), (1, .int .i64 ((i : Int) + 1)), (6, .int .i64 (k : Int))] (by as_aux_lemma => kernel_rfl) ?_
            refine WK.reg1 (l := sq 0 8) (by as_aux_lemma => kernel_rfl) (by as_aux_lemma => kernel_rfl) ?_
            refine RW.runP 3 [0, 1, 6, 61] (sq 3 8) [(0, .pointer (some ⟨rb, 0, none⟩)), (1, .int .i64 ((i : Int) + 1)), (6, .int .i64 (k : Int)), (61, .pointer (some ⟨rb, 0, none⟩))] (by as_aux_lemma => kernel_rfl) (by as_aux_lemma => kernel_rfl) ?_
            refine RW.load (κ := .seq) (d := some 62) (r := (sq 4 8)) (T := 22) (b := rb) (o' := 0) (k := 0) (v := .slice ra now.length rc) (by as_aux_lemma => kernel_rfl) (H.fc 1 rfl) rfl (by as_aux_lemma => kernel_rfl) ?_
            refine RW.runP 1 [0, 1, 6, 62, 63] (sq 5 8) [(0, .pointer (some ⟨rb, 0, none⟩)), (1, .int .i64 ((i : Int) + 1)), (6, .int .i64 (k : Int)), (62, .slice ra now.length rc), (63, .int .i64 (k : Int))] (by as_aux_lemma => kernel_rfl) (by as_aux_lemma => kernel_rfl) ?_
            have hx36 : k < now.length := by omega
            refine RW.index (κ := .seq) (d := some 64) (r := (sq 6 8)) (T := 22) (e := 3) (ik := .i64) (ix := (k : Int)) (sh := (Shape.int .i64)) (x := now[k]) (by as_aux_lemma => kernel_rfl) (by as_aux_lemma => kernel_rfl) H 2 rfl k (by omega) (List.getElem?_eq_getElem hx36) ?_
            intro b37 o38 es39 hr40 H
            have hb41 := Shape.i64_bd hr40
            obtain ⟨rfl, -⟩ := hr40
            refine RW.load (κ := .seq) (d := some 65) (r := (sq 7 8)) (T := 3) (b := b37) (o' := o38) (k := 0) (v := .int .i64 (now[k])) (by as_aux_lemma => kernel_rfl) (H.fc 0 rfl) rfl (by as_aux_lemma => kernel_rfl) ?_
            refine RW.fin 1 [0, 1, 5, 6] [(0, .pointer (some ⟨rb, 0, none⟩)), (1, .int .i64 ((i : Int) + 1)), (5, .int .i64 (now[k])), (6, .int .i64 (k : Int))] (by as_aux_lemma => kernel_rfl) ?_
            refine WK.run 1 [0, 1, 5, 6] [.code (cd Try.prog 15 [3, 0, 1, 0, 0, 2]), .inLoop (cd Try.prog 15 [3, 0, 1, 0, 0]), .inBlock 0, .code (cd Try.prog 15 [4])] [(0, .pointer (some ⟨rb, 0, none⟩)), (1, .int .i64 ((i : Int) + 1)), (5, .int .i64 (now[k])), (6, .int .i64 (k : Int))] (by as_aux_lemma => kernel_rfl) ?_
            refine WK.reg1 (l := sq 0 3) (by as_aux_lemma => kernel_rfl) (by as_aux_lemma => kernel_rfl) ?_
            refine RW.runP 1 [0, 1, 5, 6, 30] (sq 1 3) [(0, .pointer (some ⟨rb, 0, none⟩)), (1, .int .i64 ((i : Int) + 1)), (5, .int .i64 (now[k])), (6, .int .i64 (k : Int)), (30, .int .i64 (k : Int))] (by as_aux_lemma => kernel_rfl) (by as_aux_lemma => kernel_rfl) ?_
            refine RW.wr64 (κ := .seq) (d := some 31) (r := (sq 2 3)) (t := (k : Int) + 1) (by as_aux_lemma => kernel_rfl) (by omega) ?_
            refine RW.fin 1 [0, 1, 5, 6] [(0, .pointer (some ⟨rb, 0, none⟩)), (1, .int .i64 ((i : Int) + 1)), (5, .int .i64 (now[k])), (6, .int .i64 ((k : Int) + 1))] (by as_aux_lemma => kernel_rfl) ?_
            have H := H.pick [1, 2, 3] (G' := [Fc b4 o5 [.int .i64 (now[i])], Fc rb 0 [.slice ra now.length rc, .int .i64 num, .int .i64 den, .int .i64 slack, .slice rta tn rtc], Rp (Shape.slice (Shape.int .i64)) [.slice ra now.length rc] now]) rfl
            exact WK.back (hback10 (k + 1, now[k]) _ ⟨H, by omega, by first | exact hinv0.2.take hkl hk0.1 (by omega) (by omega) | exact hinv0.2.keep hkl (by omega) (by omega) | exact hinv0.2.skip (by omega)⟩ (by simp only []; omega)) (by as_aux_lemma => kernel_rfl)
          · skip
            replace h35 := of_decide_eq_false h35
            refine RW.runP 3 [0, 1, 5, 6, 44, 47, 50] (sq 19 27) [(0, .pointer (some ⟨rb, 0, none⟩)), (1, .int .i64 ((i : Int) + 1)), (5, .int .i64 least), (6, .int .i64 (k : Int)), (44, .bool true), (47, .bool false), (50, .pointer (some ⟨rb, 0, none⟩))] (by as_aux_lemma => kernel_rfl) (by as_aux_lemma => kernel_rfl) ?_
            refine RW.load (κ := .seq) (d := some 51) (r := (sq 20 27)) (T := 22) (b := rb) (o' := 0) (k := 0) (v := .slice ra now.length rc) (by as_aux_lemma => kernel_rfl) (H.fc 1 rfl) rfl (by as_aux_lemma => kernel_rfl) ?_
            refine RW.runP 1 [0, 1, 5, 6, 44, 47, 51, 52] (sq 21 27) [(0, .pointer (some ⟨rb, 0, none⟩)), (1, .int .i64 ((i : Int) + 1)), (5, .int .i64 least), (6, .int .i64 (k : Int)), (44, .bool true), (47, .bool false), (51, .slice ra now.length rc), (52, .int .i64 (k : Int))] (by as_aux_lemma => kernel_rfl) (by as_aux_lemma => kernel_rfl) ?_
            have hx42 : k < now.length := by omega
            refine RW.index (κ := .seq) (d := some 53) (r := (sq 22 27)) (T := 22) (e := 3) (ik := .i64) (ix := (k : Int)) (sh := (Shape.int .i64)) (x := now[k]) (by as_aux_lemma => kernel_rfl) (by as_aux_lemma => kernel_rfl) H 2 rfl k (by omega) (List.getElem?_eq_getElem hx42) ?_
            intro b43 o44 es45 hr46 H
            have hb47 := Shape.i64_bd hr46
            obtain ⟨rfl, -⟩ := hr46
            refine RW.load (κ := .seq) (d := some 54) (r := (sq 23 27)) (T := 3) (b := b43) (o' := o44) (k := 0) (v := .int .i64 (now[k])) (by as_aux_lemma => kernel_rfl) (H.fc 0 rfl) rfl (by as_aux_lemma => kernel_rfl) ?_
            refine RW.fin 4 [0, 1, 5, 6, 58] [(0, .pointer (some ⟨rb, 0, none⟩)), (1, .int .i64 ((i : Int) + 1)), (5, .int .i64 least), (6, .int .i64 (k : Int)), (58, .bool (decide ((now[k] : Int) < least)))] (by as_aux_lemma => kernel_rfl) ?_
            refine WK.cond1 (decide ((now[k] : Int) < least)) (by as_aux_lemma => kernel_rfl) (by as_aux_lemma => kernel_rfl) (fun h48 => ?_) (fun h48 => ?_)
            · skip
              replace h48 := of_decide_eq_true h48
              refine WK.reg1 (l := sq 0 8) (by as_aux_lemma => kernel_rfl) (by as_aux_lemma => kernel_rfl) ?_
              refine RW.runP 3 [0, 1, 5, 6, 61] (sq 3 8) [(0, .pointer (some ⟨rb, 0, none⟩)), (1, .int .i64 ((i : Int) + 1)), (5, .int .i64 least), (6, .int .i64 (k : Int)), (61, .pointer (some ⟨rb, 0, none⟩))] (by as_aux_lemma => kernel_rfl) (by as_aux_lemma => kernel_rfl) ?_
              refine RW.load (κ := .seq) (d := some 62) (r := (sq 4 8)) (T := 22) (b := rb) (o' := 0) (k := 0) (v := .slice ra now.length rc) (by as_aux_lemma => kernel_rfl) (H.fc 2 rfl) rfl (by as_aux_lemma => kernel_rfl) ?_
              refine RW.runP 1 [0, 1, 5, 6, 62, 63] (sq 5 8) [(0, .pointer (some ⟨rb, 0, none⟩)), (1, .int .i64 ((i : Int) + 1)), (5, .int .i64 least), (6, .int .i64 (k : Int)), (62, .slice ra now.length rc), (63, .int .i64 (k : Int))] (by as_aux_lemma => kernel_rfl) (by as_aux_lemma => kernel_rfl) ?_
              have hx49 : k < now.length := by omega
              refine RW.index (κ := .seq) (d := some 64) (r := (sq 6 8)) (T := 22) (e := 3) (ik := .i64) (ix := (k : Int)) (sh := (Shape.int .i64)) (x := now[k]) (by as_aux_lemma => kernel_rfl) (by as_aux_lemma => kernel_rfl) H 3 rfl k (by omega) (List.getElem?_eq_getElem hx49) ?_
              intro b50 o51 es52 hr53 H
              have hb54 := Shape.i64_bd hr53
              obtain ⟨rfl, -⟩ := hr53
              refine RW.load (κ := .seq) (d := some 65) (r := (sq 7 8)) (T := 3) (b := b50) (o' := o51) (k := 0) (v := .int .i64 (now[k])) (by as_aux_lemma => kernel_rfl) (H.fc 0 rfl) rfl (by as_aux_lemma => kernel_rfl) ?_
              refine RW.fin 1 [0, 1, 5, 6] [(0, .pointer (some ⟨rb, 0, none⟩)), (1, .int .i64 ((i : Int) + 1)), (5, .int .i64 (now[k])), (6, .int .i64 (k : Int))] (by as_aux_lemma => kernel_rfl) ?_
              refine WK.run 1 [0, 1, 5, 6] [.code (cd Try.prog 15 [3, 0, 1, 0, 0, 2]), .inLoop (cd Try.prog 15 [3, 0, 1, 0, 0]), .inBlock 0, .code (cd Try.prog 15 [4])] [(0, .pointer (some ⟨rb, 0, none⟩)), (1, .int .i64 ((i : Int) + 1)), (5, .int .i64 (now[k])), (6, .int .i64 (k : Int))] (by as_aux_lemma => kernel_rfl) ?_
              refine WK.reg1 (l := sq 0 3) (by as_aux_lemma => kernel_rfl) (by as_aux_lemma => kernel_rfl) ?_
              refine RW.runP 1 [0, 1, 5, 6, 30] (sq 1 3) [(0, .pointer (some ⟨rb, 0, none⟩)), (1, .int .i64 ((i : Int) + 1)), (5, .int .i64 (now[k])), (6, .int .i64 (k : Int)), (30, .int .i64 (k : Int))] (by as_aux_lemma => kernel_rfl) (by as_aux_lemma => kernel_rfl) ?_
              refine RW.wr64 (κ := .seq) (d := some 31) (r := (sq 2 3)) (t := (k : Int) + 1) (by as_aux_lemma => kernel_rfl) (by omega) ?_
              refine RW.fin 1 [0, 1, 5, 6] [(0, .pointer (some ⟨rb, 0, none⟩)), (1, .int .i64 ((i : Int) + 1)), (5, .int .i64 (now[k])), (6, .int .i64 ((k : Int) + 1))] (by as_aux_lemma => kernel_rfl) ?_
              have H := H.pick [2, 3, 4] (G' := [Fc b4 o5 [.int .i64 (now[i])], Fc rb 0 [.slice ra now.length rc, .int .i64 num, .int .i64 den, .int .i64 slack, .slice rta tn rtc], Rp (Shape.slice (Shape.int .i64)) [.slice ra now.length rc] now]) rfl
              exact WK.back (hback10 (k + 1, now[k]) _ ⟨H, by omega, by first | exact hinv0.2.take hkl hk0.1 (by omega) (by omega) | exact hinv0.2.keep hkl (by omega) (by omega) | exact hinv0.2.skip (by omega)⟩ (by simp only []; omega)) (by as_aux_lemma => kernel_rfl)
            · skip
              replace h48 := of_decide_eq_false h48
              refine WK.run 2 [0, 1, 5, 6] [.code (cd Try.prog 15 [3, 0, 1, 0, 0, 2]), .inLoop (cd Try.prog 15 [3, 0, 1, 0, 0]), .inBlock 0, .code (cd Try.prog 15 [4])] [(0, .pointer (some ⟨rb, 0, none⟩)), (1, .int .i64 ((i : Int) + 1)), (5, .int .i64 least), (6, .int .i64 (k : Int))] (by as_aux_lemma => kernel_rfl) ?_
              refine WK.reg1 (l := sq 0 3) (by as_aux_lemma => kernel_rfl) (by as_aux_lemma => kernel_rfl) ?_
              refine RW.runP 1 [0, 1, 5, 6, 30] (sq 1 3) [(0, .pointer (some ⟨rb, 0, none⟩)), (1, .int .i64 ((i : Int) + 1)), (5, .int .i64 least), (6, .int .i64 (k : Int)), (30, .int .i64 (k : Int))] (by as_aux_lemma => kernel_rfl) (by as_aux_lemma => kernel_rfl) ?_
              refine RW.wr64 (κ := .seq) (d := some 31) (r := (sq 2 3)) (t := (k : Int) + 1) (by as_aux_lemma => kernel_rfl) (by omega) ?_
              refine RW.fin 1 [0, 1, 5, 6] [(0, .pointer (some ⟨rb, 0, none⟩)), (1, .int .i64 ((i : Int) + 1)), (5, .int .i64 least), (6, .int .i64 ((k : Int) + 1))] (by as_aux_lemma => kernel_rfl) ?_
              have H := H.pick [1, 2, 3] (G' := [Fc b4 o5 [.int .i64 (now[i])], Fc rb 0 [.slice ra now.length rc, .int .i64 num, .int .i64 den, .int .i64 slack, .slice rta tn rtc], Rp (Shape.slice (Shape.int .i64)) [.slice ra now.length rc] now]) rfl
              exact WK.back (hback10 (k + 1, least) _ ⟨H, by omega, by first | exact hinv0.2.take hkl hk0.1 (by omega) (by omega) | exact hinv0.2.keep hkl (by omega) (by omega) | exact hinv0.2.skip (by omega)⟩ (by simp only []; omega)) (by as_aux_lemma => kernel_rfl)
        · skip
          replace h34 := ne_of_beq_false h34
          refine RW.fin 14 [0, 1, 5, 6, 58] [(0, .pointer (some ⟨rb, 0, none⟩)), (1, .int .i64 ((i : Int) + 1)), (5, .int .i64 least), (6, .int .i64 (k : Int)), (58, .bool false)] (by as_aux_lemma => kernel_rfl) ?_
          refine WK.run 3 [0, 1, 5, 6] [.code (cd Try.prog 15 [3, 0, 1, 0, 0, 2]), .inLoop (cd Try.prog 15 [3, 0, 1, 0, 0]), .inBlock 0, .code (cd Try.prog 15 [4])] [(0, .pointer (some ⟨rb, 0, none⟩)), (1, .int .i64 ((i : Int) + 1)), (5, .int .i64 least), (6, .int .i64 (k : Int))] (by as_aux_lemma => kernel_rfl) ?_
          refine WK.reg1 (l := sq 0 3) (by as_aux_lemma => kernel_rfl) (by as_aux_lemma => kernel_rfl) ?_
          refine RW.runP 1 [0, 1, 5, 6, 30] (sq 1 3) [(0, .pointer (some ⟨rb, 0, none⟩)), (1, .int .i64 ((i : Int) + 1)), (5, .int .i64 least), (6, .int .i64 (k : Int)), (30, .int .i64 (k : Int))] (by as_aux_lemma => kernel_rfl) (by as_aux_lemma => kernel_rfl) ?_
          refine RW.wr64 (κ := .seq) (d := some 31) (r := (sq 2 3)) (t := (k : Int) + 1) (by as_aux_lemma => kernel_rfl) (by omega) ?_
          refine RW.fin 1 [0, 1, 5, 6] [(0, .pointer (some ⟨rb, 0, none⟩)), (1, .int .i64 ((i : Int) + 1)), (5, .int .i64 least), (6, .int .i64 ((k : Int) + 1))] (by as_aux_lemma => kernel_rfl) ?_
          exact WK.back (hback10 (k + 1, least) _ ⟨H, by omega, by first | exact hinv0.2.take hkl hk0.1 (by omega) (by omega) | exact hinv0.2.keep hkl (by omega) (by omega) | exact hinv0.2.skip (by omega)⟩ (by simp only []; omega)) (by as_aux_lemma => kernel_rfl)
    · skip
      replace h12 := of_decide_eq_false h12
      have hkn : k = now.length := by omega
      rw [hkn] at hinv0
      have hle : least = minOf (othersOf now i) := hinv0.2.fin hi
      rw [← hle] at hm hp3
      refine WK.run 2 [0, 1, 5] [.code (cd Try.prog 15 [4, 0]), .code (cd Try.prog 15 [5])] [(0, .pointer (some ⟨rb, 0, none⟩)), (1, .int .i64 ((i : Int) + 1)), (5, .int .i64 least)] (by as_aux_lemma => kernel_rfl) ?_
      refine WK.reg1 (l := sq 0 10) (by as_aux_lemma => kernel_rfl) (by as_aux_lemma => kernel_rfl) ?_
      refine RW.runP 3 [0, 1, 5, 68] (sq 3 10) [(0, .pointer (some ⟨rb, 0, none⟩)), (1, .int .i64 ((i : Int) + 1)), (5, .int .i64 least), (68, .pointer (some ⟨rb, 0, none⟩))] (by as_aux_lemma => kernel_rfl) (by as_aux_lemma => kernel_rfl) ?_
      refine RW.load (κ := .seq) (d := some 69) (r := (sq 4 10)) (T := 22) (b := rb) (o' := 0) (k := 0) (v := .slice ra now.length rc) (by as_aux_lemma => kernel_rfl) (H.fc 1 rfl) rfl (by as_aux_lemma => kernel_rfl) ?_
      refine RW.runP 1 [0, 5, 69, 70] (sq 5 10) [(0, .pointer (some ⟨rb, 0, none⟩)), (5, .int .i64 least), (69, .slice ra now.length rc), (70, .int .i64 ((i : Int) + 1))] (by as_aux_lemma => kernel_rfl) (by as_aux_lemma => kernel_rfl) ?_
      refine RW.pv (κ := .seq) (d := some 71) (r := (sq 6 10)) (v' := .int .i64 (i : Int)) (v := .int .i64 (IntKind.i64.wrap (((i : Int) + 1) - 1))) (by as_aux_lemma => kernel_rfl) (by rw [IntKind.wrap_i64]; congr 1; omega) ?_
      have hx55 : i < now.length := by omega
      refine RW.index (κ := .seq) (d := some 72) (r := (sq 7 10)) (T := 22) (e := 3) (ik := .i64) (ix := (i : Int)) (sh := (Shape.int .i64)) (x := now[i]) (by as_aux_lemma => kernel_rfl) (by as_aux_lemma => kernel_rfl) H 2 rfl i (by omega) (List.getElem?_eq_getElem hx55) ?_
      intro b56 o57 es58 hr59 H
      have hb60 := Shape.i64_bd hr59
      obtain ⟨rfl, -⟩ := hr59
      refine RW.load (κ := .seq) (d := some 73) (r := (sq 8 10)) (T := 3) (b := b56) (o' := o57) (k := 0) (v := .int .i64 (now[i])) (by as_aux_lemma => kernel_rfl) (H.fc 0 rfl) rfl (by as_aux_lemma => kernel_rfl) ?_
      refine RW.wr64 (κ := .seq) (d := some 74) (r := (sq 9 10)) (t := (now[i]) + 1) (by as_aux_lemma => kernel_rfl) (by omega) ?_
      refine RW.fin 1 [0, 5, 7] [(0, .pointer (some ⟨rb, 0, none⟩)), (5, .int .i64 least), (7, .int .i64 ((now[i]) + 1))] (by as_aux_lemma => kernel_rfl) ?_
      refine WK.run 1 [0, 5, 7] [.code (cd Try.prog 15 [5, 0]), .code (cd Try.prog 15 [6])] [(0, .pointer (some ⟨rb, 0, none⟩)), (5, .int .i64 least), (7, .int .i64 ((now[i]) + 1))] (by as_aux_lemma => kernel_rfl) ?_
      refine WK.draw1 29 [(0, .qui), (1, .qui), (2, .qui), (3, .qui), (4, .qui), (5, .qui), (6, .qui), (7, .qui), (8, .qui), (9, .qui), (10, .qui), (11, .qui), (12, .qui), (13, .qui), (14, .qui), (15, .qui), (16, .qui), (17, .qui), (18, .qui), (19, .qui), (20, .qui), (21, .qui), (22, .qui), (23, .qui), (24, .qui), (25, .qui), (26, .qui), (27, .qui), (28, .qui)] [(0, .qui), (1, .qui), (2, .qui), (3, .qui), (4, .qui), (5, .qui), (6, .qui), (7, .qui), (8, .qui), (9, .qui), (10, .qui), (11, .qui), (12, .qui), (13, .qui), (14, .qui), (15, .qui), (16, .qui), (17, .qui), (18, .qui), (19, .qui), (20, .qui), (21, .qui), (22, .qui), (23, .qui), (24, .qui), (25, .qui), (26, .qui), (27, .qui), (28, .qui)] Try_mixed (by as_aux_lemma => kernel_rfl) (by as_aux_lemma => kernel_rfl) (by as_aux_lemma => kernel_rfl) ?_
      have H := H.draw
      generalize ({ w11 with drawn := w11.drawn + 1 } : World) = w61 at H ⊢
      refine RW.runP 4 [0, 5, 75, 78] [(4, .qui), (5, .qui), (6, .qui), (7, .qui), (8, .qui), (9, .qui), (10, .qui), (11, .qui), (12, .qui), (13, .qui), (14, .qui), (15, .qui), (16, .qui), (17, .qui), (18, .qui), (19, .qui), (20, .qui), (21, .qui), (22, .qui), (23, .qui), (24, .qui), (25, .qui), (26, .qui), (27, .qui), (28, .qui)] [(0, .pointer (some ⟨rb, 0, none⟩)), (5, .int .i64 least), (75, .int .i64 ((now[i]) + 1)), (78, .pointer (some ⟨rb, 2, none⟩))] (by as_aux_lemma => kernel_rfl) (by as_aux_lemma => kernel_rfl) ?_
      refine RW.load (κ := .qui) (d := some 79) (r := [(5, .qui), (6, .qui), (7, .qui), (8, .qui), (9, .qui), (10, .qui), (11, .qui), (12, .qui), (13, .qui), (14, .qui), (15, .qui), (16, .qui), (17, .qui), (18, .qui), (19, .qui), (20, .qui), (21, .qui), (22, .qui), (23, .qui), (24, .qui), (25, .qui), (26, .qui), (27, .qui), (28, .qui)]) (T := 3) (b := rb) (o' := 2) (k := 2) (v := .int .i64 den) (by as_aux_lemma => kernel_rfl) (H.fc 2 rfl) rfl (by as_aux_lemma => kernel_rfl) ?_
      refine RW.wr64 (κ := .qui) (d := some 80) (r := [(6, .qui), (7, .qui), (8, .qui), (9, .qui), (10, .qui), (11, .qui), (12, .qui), (13, .qui), (14, .qui), (15, .qui), (16, .qui), (17, .qui), (18, .qui), (19, .qui), (20, .qui), (21, .qui), (22, .qui), (23, .qui), (24, .qui), (25, .qui), (26, .qui), (27, .qui), (28, .qui)]) (t := ((now[i]) + 1) * den) (by as_aux_lemma => kernel_rfl) (by omega) ?_
      refine RW.runP 3 [0, 5, 80, 83] [(9, .qui), (10, .qui), (11, .qui), (12, .qui), (13, .qui), (14, .qui), (15, .qui), (16, .qui), (17, .qui), (18, .qui), (19, .qui), (20, .qui), (21, .qui), (22, .qui), (23, .qui), (24, .qui), (25, .qui), (26, .qui), (27, .qui), (28, .qui)] [(0, .pointer (some ⟨rb, 0, none⟩)), (5, .int .i64 least), (80, .int .i64 (((now[i]) + 1) * den)), (83, .pointer (some ⟨rb, 1, none⟩))] (by as_aux_lemma => kernel_rfl) (by as_aux_lemma => kernel_rfl) ?_
      refine RW.load (κ := .qui) (d := some 84) (r := [(10, .qui), (11, .qui), (12, .qui), (13, .qui), (14, .qui), (15, .qui), (16, .qui), (17, .qui), (18, .qui), (19, .qui), (20, .qui), (21, .qui), (22, .qui), (23, .qui), (24, .qui), (25, .qui), (26, .qui), (27, .qui), (28, .qui)]) (T := 3) (b := rb) (o' := 1) (k := 1) (v := .int .i64 num) (by as_aux_lemma => kernel_rfl) (H.fc 2 rfl) rfl (by as_aux_lemma => kernel_rfl) ?_
      refine RW.runP 1 [0, 80, 84, 85] [(11, .qui), (12, .qui), (13, .qui), (14, .qui), (15, .qui), (16, .qui), (17, .qui), (18, .qui), (19, .qui), (20, .qui), (21, .qui), (22, .qui), (23, .qui), (24, .qui), (25, .qui), (26, .qui), (27, .qui), (28, .qui)] [(0, .pointer (some ⟨rb, 0, none⟩)), (80, .int .i64 (((now[i]) + 1) * den)), (84, .int .i64 num), (85, .int .i64 least)] (by as_aux_lemma => kernel_rfl) (by as_aux_lemma => kernel_rfl) ?_
      refine RW.wr64 (κ := .qui) (d := some 86) (r := [(12, .qui), (13, .qui), (14, .qui), (15, .qui), (16, .qui), (17, .qui), (18, .qui), (19, .qui), (20, .qui), (21, .qui), (22, .qui), (23, .qui), (24, .qui), (25, .qui), (26, .qui), (27, .qui), (28, .qui)]) (t := num * least) (by as_aux_lemma => kernel_rfl) (by omega) ?_
      refine RW.runP 3 [0, 80, 86, 89] [(15, .qui), (16, .qui), (17, .qui), (18, .qui), (19, .qui), (20, .qui), (21, .qui), (22, .qui), (23, .qui), (24, .qui), (25, .qui), (26, .qui), (27, .qui), (28, .qui)] [(0, .pointer (some ⟨rb, 0, none⟩)), (80, .int .i64 (((now[i]) + 1) * den)), (86, .int .i64 (num * least)), (89, .pointer (some ⟨rb, 2, none⟩))] (by as_aux_lemma => kernel_rfl) (by as_aux_lemma => kernel_rfl) ?_
      refine RW.load (κ := .qui) (d := some 90) (r := [(16, .qui), (17, .qui), (18, .qui), (19, .qui), (20, .qui), (21, .qui), (22, .qui), (23, .qui), (24, .qui), (25, .qui), (26, .qui), (27, .qui), (28, .qui)]) (T := 3) (b := rb) (o' := 2) (k := 2) (v := .int .i64 den) (by as_aux_lemma => kernel_rfl) (H.fc 2 rfl) rfl (by as_aux_lemma => kernel_rfl) ?_
      refine RW.runP 3 [0, 80, 86, 90, 93] [(19, .qui), (20, .qui), (21, .qui), (22, .qui), (23, .qui), (24, .qui), (25, .qui), (26, .qui), (27, .qui), (28, .qui)] [(0, .pointer (some ⟨rb, 0, none⟩)), (80, .int .i64 (((now[i]) + 1) * den)), (86, .int .i64 (num * least)), (90, .int .i64 den), (93, .pointer (some ⟨rb, 3, none⟩))] (by as_aux_lemma => kernel_rfl) (by as_aux_lemma => kernel_rfl) ?_
      refine RW.load (κ := .qui) (d := some 94) (r := [(20, .qui), (21, .qui), (22, .qui), (23, .qui), (24, .qui), (25, .qui), (26, .qui), (27, .qui), (28, .qui)]) (T := 3) (b := rb) (o' := 3) (k := 3) (v := .int .i64 slack) (by as_aux_lemma => kernel_rfl) (H.fc 2 rfl) rfl (by as_aux_lemma => kernel_rfl) ?_
      refine RW.wr64 (κ := .qui) (d := some 95) (r := [(21, .qui), (22, .qui), (23, .qui), (24, .qui), (25, .qui), (26, .qui), (27, .qui), (28, .qui)]) (t := den * slack) (by as_aux_lemma => kernel_rfl) (by omega) ?_
      refine RW.wr64 (κ := .qui) (d := some 96) (r := [(22, .qui), (23, .qui), (24, .qui), (25, .qui), (26, .qui), (27, .qui), (28, .qui)]) (t := (num * least) + (den * slack)) (by as_aux_lemma => kernel_rfl) (by omega) ?_
      refine RW.runP 3 [80, 96, 99] [(25, .qui), (26, .qui), (27, .qui), (28, .qui)] [(80, .int .i64 (((now[i]) + 1) * den)), (96, .int .i64 ((num * least) + (den * slack))), (99, .pointer (some ⟨rb, 1, none⟩))] (by as_aux_lemma => kernel_rfl) (by as_aux_lemma => kernel_rfl) ?_
      refine RW.load (κ := .qui) (d := some 100) (r := [(26, .qui), (27, .qui), (28, .qui)]) (T := 3) (b := rb) (o' := 1) (k := 1) (v := .int .i64 num) (by as_aux_lemma => kernel_rfl) (H.fc 2 rfl) rfl (by as_aux_lemma => kernel_rfl) ?_
      refine RW.wr64 (κ := .qui) (d := some 101) (r := [(27, .qui), (28, .qui)]) (t := ((num * least) + (den * slack)) + num) (by as_aux_lemma => kernel_rfl) (by omega) ?_
      refine RW.fin 2 [4] [(4, .bool (decide ((((now[i]) + 1) * den : Int) ≤ ((num * least) + (den * slack)) + num)))] (by as_aux_lemma => kernel_rfl) ?_
      refine WK.ret (v := .bool (decide ((((now[i]) + 1) * den : Int) ≤ ((num * least) + (den * slack)) + num))) Try.func15 (by as_aux_lemma => kernel_rfl) (by as_aux_lemma => kernel_rfl) ?_
      refine ⟨_, rfl, H.done, ?_⟩
      congr 1
      unfold mayI
      rw [hnow, Option.getD_some]
      rw [← hle, Int.mul_comm least num, Int.mul_comm slack den]
      exact decide_eq_decide.2 ⟨fun h => ⟨by omega, h⟩, fun h => h.2⟩

theorem rmay_out {S : Nat → Prop} {w : World} {rb rc tn rtc : Nat} {ra rta : Option Addr} {now : List Int} {num den slack : Int} (hF : (Fc rb 0 [.slice ra now.length rc, .int .i64 num, .int .i64 den, .int .i64 slack, .slice rta tn rtc]).p S w) {node : Int} (hst : ¬ (1 ≤ node ∧ node ≤ (now.length : Int))) :
    Calls Try.prog 15 #[.pointer (some ⟨rb, 0, none⟩), .int .i64 node] w (Ret fun v w' => Ext w w' ∧ v = .bool false) := by
  refine WK.calls1 (fn := Try.f15) (n := 103) (σ := [(0, .pointer (some ⟨rb, 0, none⟩)), (1, .int .i64 node)]) Try.func15 rfl (by as_aux_lemma => kernel_rfl) (by as_aux_lemma => kernel_rfl) (by as_aux_lemma => kernel_rfl) ?_
  have H := Hp.startF (w := w) (S := S) (G := [Fc rb 0 [.slice ra now.length rc, .int .i64 num, .int .i64 den, .int .i64 slack, .slice rta tn rtc]]) (.cons hF .nil)
  refine WK.run 4 [0, 1] [.code (cd Try.prog 15 [1, 0, 0]), .code (cd Try.prog 15 [1, 0, 1]), .code (cd Try.prog 15 [2])] [(0, .pointer (some ⟨rb, 0, none⟩)), (1, .int .i64 node)] (by as_aux_lemma => kernel_rfl) ?_
  refine WK.reg1 (l := sq 0 15) (by as_aux_lemma => kernel_rfl) (by as_aux_lemma => kernel_rfl) ?_
  refine RW.runP 2 [0, 1, 8, 9] (sq 2 15) [(0, .pointer (some ⟨rb, 0, none⟩)), (1, .int .i64 node), (8, .pointer (some ⟨rb, 0, none⟩)), (9, .int .i64 node)] (by as_aux_lemma => kernel_rfl) (by as_aux_lemma => kernel_rfl) ?_
  refine RW.call (κ := .seq) (d := some 10) (r := (sq 3 15)) (g := 31) (args := #[.pointer (some ⟨rb, 0, none⟩), .int .i64 node]) (by as_aux_lemma => kernel_rfl) (nofun) (has_spec (S := fun _ => True) (now := now) (H.viewF 0 rfl) node) ?_
  rintro _ w1 hE2 rfl
  have H := H.ext hE2
  refine RW.runP 2 [0, 1, 12] (sq 5 15) [(0, .pointer (some ⟨rb, 0, none⟩)), (1, .int .i64 node), (12, .bool (!(hasE now.length node)))] (by as_aux_lemma => kernel_rfl) (by as_aux_lemma => kernel_rfl) ?_
  refine RW.test (fun b_ => [(0, .pointer (some ⟨rb, 0, none⟩)), (1, .int .i64 node), (12, .bool b_)]) (!(hasE now.length node)) (fun h3 => ?_) (fun h3 => ?_)
  · skip
    replace h3 : (hasE now.length node) = false := by revert h3; cases (hasE now.length node) <;> simp
    replace h3 := of_decide_eq_false h3
    refine RW.fin 10 [0, 1, 22] [(0, .pointer (some ⟨rb, 0, none⟩)), (1, .int .i64 node), (22, .bool true)] (by as_aux_lemma => kernel_rfl) ?_
    refine WK.run 3 [4] [.code (cd Try.prog 15 [1, 0, 1, 0, 1]), .code (cd Try.prog 15 [2])] [(4, .bool false)] (by as_aux_lemma => kernel_rfl) ?_
    refine WK.ret (v := .bool false) Try.func15 (by as_aux_lemma => kernel_rfl) (by as_aux_lemma => kernel_rfl) ?_
    exact ⟨_, rfl, H.done, rfl⟩
  · skip
    replace h3 : (hasE now.length node) = true := by revert h3; cases (hasE now.length node) <;> simp
    replace h3 := of_decide_eq_true h3
    exact absurd h3 hst

theorem rmay_spec {S : Nat → Prop} {w : World} {rb rc tn rtc : Nat} {ra rta : Option Addr} {now : List Int} {num den slack : Int} (hF : (Fc rb 0 [.slice ra now.length rc, .int .i64 num, .int .i64 den, .int .i64 slack, .slice rta tn rtc]).p S w) (hN : (Shape.slice (Shape.int .i64)).rep S w [.slice ra now.length rc] now) (hC : COk now num den slack) (node : Int) : Calls Try.prog 15 #[.pointer (some ⟨rb, 0, none⟩), .int .i64 node] w (Ret fun v w' => Ext w w' ∧ v = .bool (mayE now num den slack node)) := by
  by_cases h : 1 ≤ node ∧ node ≤ (now.length : Int)
  · obtain ⟨i, rfl⟩ : ∃ i : Nat, node = (i : Int) + 1 := ⟨(node - 1).toNat, by omega⟩
    have := rmay_in hF hN hC (i := i) (by omega)
    rw [show mayE now num den slack ((i : Int) + 1) = mayI now num den slack i by unfold mayE; rw [if_pos (has_st h)]; congr 1; omega]
    exact this
  · rw [show mayE now num den slack node = false from if_neg (hasnt_st h)]
    exact rmay_out hF h


end Go.Proofs.Ytghnicaefbdjfaa
