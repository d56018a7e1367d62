import Derived.Test.YtppcdmbkgficiaaW7
namespace Go.Proofs.Ytppcdmbkgficiaa
open Go.BX

def Wt (xs : List (BitVec 8)) (limit i : Int) : Wr := { beginW 1 1 ⟨#[97]⟩ xs 1 2 ⟨0, 1, [4, 5], 0⟩ limit with waited := i }
theorem Wt_heads {xs : List (BitVec 8)} {limit i : Int} : (Wt xs limit i).heads.length = 2 := by
  show (headsOf _ _ _ (enc xs 1 2)).length = 2
  rw [headsOf_len, enc_len (by decide)]
theorem Wt_chunks {xs : List (BitVec 8)} {limit i : Int} : (Wt xs limit i).chunks.length = 2 := enc_len (by decide)
theorem Wt_right {xs : List (BitVec 8)} {limit i : Int} : rightW (Wt xs limit i) = true := by
  unfold rightW
  rw [Wt_heads, Wt_chunks]
  exact decide_eq_true ⟨rfl, rfl⟩
theorem msgsTo_all {W : Wr} (h : W.acks = []) : ∀ n, (msgsTo W n).length = n
  | 0 => rfl
  | n + 1 => by
    rw [← msgsTo_yes (by rw [h]; simp), List.length_append, msgsTo_all h n]; rfl
theorem Wt_msgs {xs : List (BitVec 8)} {limit i : Int} : (msgsOf (Wt xs limit i)).length = 2 := by
  unfold msgsOf
  rw [msgsTo_all rfl, Wt_heads]
theorem Wt_cb {xs : List (BitVec 8)} {limit i : Int} (h : xs.length ≤ 65536) : ∀ c ∈ (Wt xs limit i).chunks, c.length ≤ 1000000 := fun c hc => by
  have h1 : c.length = lenOf xs.length 1 := enc_all c hc
  have h2 := lenOf_le (size := xs.length) (k := 1) (by decide)
  omega
theorem Wt_bd {xs : List (BitVec 8)} {limit i : Int} (hi : 0 ≤ i ∧ i ≤ 200000) (hl : 1 ≤ limit ∧ limit ≤ 100000) : (0 ≤ (Wt xs limit i).client ∧ (Wt xs limit i).client ≤ 18446744073709551615) ∧ (0 ≤ (Wt xs limit i).seq ∧ (Wt xs limit i).seq ≤ 18446744073709551615) ∧ (Wt xs limit i).key.size ≤ maxLen ∧
    (0 ≤ (Wt xs limit i).waited ∧ (Wt xs limit i).waited ≤ 200000) ∧ (1 ≤ (Wt xs limit i).limit ∧ (Wt xs limit i).limit ≤ 100000) ∧ (Wt xs limit i).done = 0 :=
  ⟨⟨by show (0 : Int) ≤ 1; decide, by show (1 : Int) ≤ _; decide⟩, ⟨by show (0 : Int) ≤ 1; decide, by show (1 : Int) ≤ _; decide⟩, by show (1 : Nat) ≤ maxLen; simp [maxLen], hi, hl, rfl⟩
theorem tick_wait {xs : List (BitVec 8)} {limit i : Int} (h0 : 0 ≤ i) (h : i + 1 ≤ limit) (hl : limit ≤ 100000) : tickOf (Wt xs limit i) = (Wt xs limit (i + 1), if (i + 1) % 4 = 0 then msgsOf (Wt xs limit (i + 1)) else [], 0) := by
  have e1 : (Wt xs limit i).waited = i := rfl
  have e2 : (Wt xs limit i).limit = limit := rfl
  have e3 : (Wt xs limit i).done = 0 := rfl
  unfold tickOf
  rw [if_neg (by rw [Wt_right, e1, e3]; simp; omega), e1, e2, if_neg (by omega)]
  split <;> rfl
theorem tick_last {xs : List (BitVec 8)} {limit : Int} (h0 : 1 ≤ limit) (hl : limit ≤ 100000) : tickOf (Wt xs limit limit) = ({ Wt xs limit (limit + 1) with done := 2 }, [], 2) := by
  have e1 : (Wt xs limit limit).waited = limit := rfl
  have e2 : (Wt xs limit limit).limit = limit := rfl
  have e3 : (Wt xs limit limit).done = 0 := rfl
  unfold tickOf
  rw [if_neg (by rw [Wt_right, e1, e3]; simp; omega), e1, e2, if_pos (by omega)]
  rfl
theorem got_given {W : Wr} {kind frm : Int} {hd : Hdr} {ok : Bool} (h : W.done = 2) : gotOf W kind frm hd ok = (W, 2) := by
  unfold gotOf
  rw [if_pos (by rw [h]; simp), h]
theorem settle_given {W : Wr} (h : W.done = 2) : settleF W = [] := by
  unfold settleF
  rw [if_neg (by rw [h]; simp)]

theorem ends_bad1 {S : Nat → Prop} {w : World} {xs : List (BitVec 8)} {a : Option Addr} {c : Nat} (limit : Int) (hli : -9223372036854775808 ≤ limit ∧ limit ≤ 9223372036854775807) (h : (Shape.slice (Shape.bv .u8 8)).rep S w [.slice a xs.length c] xs) (hb : ¬ xs.length ≤ 65536) :
    Calls Try.prog 5 #[.slice a xs.length c, .int .i64 limit] w (Ret fun v w' => Ext w w' ∧ v = .bool true) := by
  refine WK.calls1 (fn := Try.f5) (n := 118) (σ := [(0, .slice a xs.length c), (1, .int .i64 limit)]) Try.func5 rfl (by as_aux_lemma => kernel_rfl) (by as_aux_lemma => kernel_rfl) (by as_aux_lemma => kernel_rfl) ?_
  have H := Hp.startF (w := w) (S := S) (G := [Rp (Shape.slice (Shape.bv .u8 8)) [.slice a xs.length c] xs]) (.rp h .nil)
  refine WK.run 3 [0, 1] [.code (cd Try.prog 5 [1, 0]), .code (cd Try.prog 5 [2])] [(0, .slice a xs.length c), (1, .int .i64 limit)] (by as_aux_lemma => kernel_rfl) ?_
  refine WK.reg1 (l := sq 0 13) (by as_aux_lemma => kernel_rfl) (by as_aux_lemma => kernel_rfl) ?_
  refine RW.runP 1 [0, 1, 18] (sq 1 13) [(0, .slice a xs.length c), (1, .int .i64 limit), (18, .slice a xs.length c)] (by as_aux_lemma => kernel_rfl) (by as_aux_lemma => kernel_rfl) ?_
  refine RW.new (κ := .seq) (d := some 19) (r := (sq 2 13)) (o := .cells #[.int .i64 4, .int .i64 5] 3 (0, 0)) (v := fun b => .slice (some ⟨b, 0, none⟩) 2 2) (fun b => by as_aux_lemma => kernel_rfl) (nofun) H ?_
  intro b1 w2 H
  refine RW.runP 2 [0, 1, 18, 20, 21] (sq 4 13) [(0, .slice a xs.length c), (1, .int .i64 limit), (18, .slice a xs.length c), (20, .agg #[.int .i64 0, .int .u64 1, .slice (some ⟨b1, 0, none⟩) 2 2, .int .u64 0]), (21, .int .i64 limit)] (by as_aux_lemma => kernel_rfl) (by as_aux_lemma => kernel_rfl) ?_
  have H := H.freeze 0 rfl (Shape.int .i64) ([4, 5] : List Int) 2 (by simp [maxLen]) (by first | exact Nat.le_refl _ | simp) (EsP.cons (c := [.int .i64 4]) (Shape.int_mk (by decide)) (EsP.cons (c := [.int .i64 5]) (Shape.int_mk (by decide)) EsP.nil))
  have H : Hp w S [] [] [] [Rp (Shape.slice (Shape.int .i64)) [.slice (some ⟨b1, 0, none⟩) 2 2] ([4, 5] : List Int), Rp (Shape.slice (Shape.bv .u8 8)) [.slice a xs.length c] xs] _ := H
  refine RW.call (κ := .seq) (d := some 22) (r := (sq 5 13)) (g := 18) (args := #[.int .u64 1, .int .u64 1, .string (⟨#[97]⟩), .slice a xs.length c, .int .i64 1, .int .i64 2, .agg #[.int .i64 0, .int .u64 1, .slice (some ⟨b1, 0, none⟩) 2 2, .int .u64 0], .int .i64 limit]) (by as_aux_lemma => kernel_rfl) (nofun) (begin_bad1 (xs := xs) (R := ⟨0, 1, ([4, 5] : List Int), 0⟩) 1 1 (⟨#[97]⟩) (H.rp 1 rfl) (res_mk (Shape.int_mk (by decide)) (Shape.int_mk (by decide)) (H.rp 0 rfl) (Shape.int_mk (by decide))) limit 1 2 (by first | assumption | omega)) ?_
  rintro _ w3 hE4 rfl
  have H := H.ext hE4
  refine RW.runP 4 [0, 1, 23, 24, 25] (sq 9 13) [(0, .slice a xs.length c), (1, .int .i64 limit), (23, .agg #[.int .u64 0, .int .u64 0, .string (⟨#[]⟩), .slice none 0 0, .slice none 0 0, .slice none 0 0, .slice none 0 0, .int .i64 0, .int .i64 0, .int .i64 0]), (24, .slice none 0 0), (25, .int .i64 2)] (by as_aux_lemma => kernel_rfl) (by as_aux_lemma => kernel_rfl) ?_
  refine RW.new (κ := .seq) (d := some 5) (r := (sq 10 13)) (o := .cells #[.int .u64 0, .int .u64 0, .string (⟨#[]⟩), .slice none 0 0, .slice none 0 0, .slice none 0 0, .slice none 0 0, .int .i64 0, .int .i64 0, .int .i64 0] 32 (0, 0)) (v := fun b => .pointer (some ⟨b, 0, none⟩)) (fun b => by as_aux_lemma => kernel_rfl) (nofun) H ?_
  intro b5 w6 H
  refine RW.store (d := none) (r := (sq 11 13)) (T := 32) (b := b5) (k := 0) (v := .agg #[.int .u64 0, .int .u64 0, .string (⟨#[]⟩), .slice none 0 0, .slice none 0 0, .slice none 0 0, .slice none 0 0, .int .i64 0, .int .i64 0, .int .i64 0]) (c' := #[.int .u64 0, .int .u64 0, .string (⟨#[]⟩), .slice none 0 0, .slice none 0 0, .slice none 0 0, .slice none 0 0, .int .i64 0, .int .i64 0, .int .i64 0]) (M' := [(b5, .cells #[.int .u64 0, .int .u64 0, .string (⟨#[]⟩), .slice none 0 0, .slice none 0 0, .slice none 0 0, .slice none 0 0, .int .i64 0, .int .i64 0, .int .i64 0] 32 (0, 0))]) (by as_aux_lemma => kernel_rfl) H 0 rfl (by as_aux_lemma => kernel_rfl) (by as_aux_lemma => kernel_rfl) ?_
  intro w7 H
  refine RW.fin 2 [0, 1, 5, 7] [(0, .slice a xs.length c), (1, .int .i64 limit), (5, .pointer (some ⟨b5, 0, none⟩)), (7, .int .i64 2)] (by as_aux_lemma => kernel_rfl) ?_
  refine WK.run 5 [0, 1] [.code (cd Try.prog 5 [2, 0, 1, 0, 0]), .code (cd Try.prog 5 [2, 0, 1, 0, 1]), .code (cd Try.prog 5 [3])] [(0, .slice a xs.length c), (1, .int .i64 limit)] (by as_aux_lemma => kernel_rfl) ?_
  refine WK.reg1 (l := sq 0 15) (by as_aux_lemma => kernel_rfl) (by as_aux_lemma => kernel_rfl) ?_
  refine RW.runP 4 [1, 31] (sq 4 15) [(1, .int .i64 limit), (31, .bool (decide ((((xs.length : Nat) : Int) : Int) > 65536)))] (by as_aux_lemma => kernel_rfl) (by as_aux_lemma => kernel_rfl) ?_
  refine RW.test (fun b_ => [(1, .int .i64 limit), (31, .bool b_)]) (decide ((((xs.length : Nat) : Int) : Int) > 65536)) (fun h8 => ?_) (fun h8 => ?_)
  · skip
    replace h8 := of_decide_eq_true h8
    refine RW.runP 8 [39] (sq 12 15) [(39, .bool true)] (by as_aux_lemma => kernel_rfl) (by as_aux_lemma => kernel_rfl) ?_
    refine RW.call (κ := .seq) (d := some 40) (r := (sq 13 15)) (g := 22) (args := #[]) (by as_aux_lemma => kernel_rfl) (nofun) (heads_spec (S := fun _ => True)) ?_
    rintro _ w9 hE10 rfl
    have H := H.ext hE10
    refine RW.fin 2 [4] [(4, .bool true)] (by as_aux_lemma => kernel_rfl) ?_
    refine WK.ret (v := .bool true) Try.func5 (by as_aux_lemma => kernel_rfl) (by as_aux_lemma => kernel_rfl) ?_
    exact ⟨_, rfl, H.done, rfl⟩
  · skip
    replace h8 := of_decide_eq_false h8
    omega

theorem ends_bad2 {S : Nat → Prop} {w : World} {xs : List (BitVec 8)} {a : Option Addr} {c : Nat} (limit : Int) (hli : -9223372036854775808 ≤ limit ∧ limit ≤ 9223372036854775807) (h : (Shape.slice (Shape.bv .u8 8)).rep S w [.slice a xs.length c] xs) (hs : xs.length ≤ 65536) (hb : ¬ (1 ≤ limit ∧ limit ≤ 100000)) :
    Calls Try.prog 5 #[.slice a xs.length c, .int .i64 limit] w (Ret fun v w' => Ext w w' ∧ v = .bool true) := by
  refine WK.calls1 (fn := Try.f5) (n := 118) (σ := [(0, .slice a xs.length c), (1, .int .i64 limit)]) Try.func5 rfl (by as_aux_lemma => kernel_rfl) (by as_aux_lemma => kernel_rfl) (by as_aux_lemma => kernel_rfl) ?_
  have H := Hp.startF (w := w) (S := S) (G := [Rp (Shape.slice (Shape.bv .u8 8)) [.slice a xs.length c] xs]) (.rp h .nil)
  refine WK.run 3 [0, 1] [.code (cd Try.prog 5 [1, 0]), .code (cd Try.prog 5 [2])] [(0, .slice a xs.length c), (1, .int .i64 limit)] (by as_aux_lemma => kernel_rfl) ?_
  refine WK.reg1 (l := sq 0 13) (by as_aux_lemma => kernel_rfl) (by as_aux_lemma => kernel_rfl) ?_
  refine RW.runP 1 [0, 1, 18] (sq 1 13) [(0, .slice a xs.length c), (1, .int .i64 limit), (18, .slice a xs.length c)] (by as_aux_lemma => kernel_rfl) (by as_aux_lemma => kernel_rfl) ?_
  refine RW.new (κ := .seq) (d := some 19) (r := (sq 2 13)) (o := .cells #[.int .i64 4, .int .i64 5] 3 (0, 0)) (v := fun b => .slice (some ⟨b, 0, none⟩) 2 2) (fun b => by as_aux_lemma => kernel_rfl) (nofun) H ?_
  intro b1 w2 H
  refine RW.runP 2 [0, 1, 18, 20, 21] (sq 4 13) [(0, .slice a xs.length c), (1, .int .i64 limit), (18, .slice a xs.length c), (20, .agg #[.int .i64 0, .int .u64 1, .slice (some ⟨b1, 0, none⟩) 2 2, .int .u64 0]), (21, .int .i64 limit)] (by as_aux_lemma => kernel_rfl) (by as_aux_lemma => kernel_rfl) ?_
  have H := H.freeze 0 rfl (Shape.int .i64) ([4, 5] : List Int) 2 (by simp [maxLen]) (by first | exact Nat.le_refl _ | simp) (EsP.cons (c := [.int .i64 4]) (Shape.int_mk (by decide)) (EsP.cons (c := [.int .i64 5]) (Shape.int_mk (by decide)) EsP.nil))
  have H : Hp w S [] [] [] [Rp (Shape.slice (Shape.int .i64)) [.slice (some ⟨b1, 0, none⟩) 2 2] ([4, 5] : List Int), Rp (Shape.slice (Shape.bv .u8 8)) [.slice a xs.length c] xs] _ := H
  refine RW.call (κ := .seq) (d := some 22) (r := (sq 5 13)) (g := 18) (args := #[.int .u64 1, .int .u64 1, .string (⟨#[97]⟩), .slice a xs.length c, .int .i64 1, .int .i64 2, .agg #[.int .i64 0, .int .u64 1, .slice (some ⟨b1, 0, none⟩) 2 2, .int .u64 0], .int .i64 limit]) (by as_aux_lemma => kernel_rfl) (nofun) (begin_bad2 (xs := xs) (R := ⟨0, 1, ([4, 5] : List Int), 0⟩) 1 1 (⟨#[97]⟩) (H.rp 1 rfl) (res_mk (Shape.int_mk (by decide)) (Shape.int_mk (by decide)) (H.rp 0 rfl) (Shape.int_mk (by decide))) limit 1 2 (by omega) (by omega) (by omega) (by omega) (by first | assumption | (simp; omega))) ?_
  rintro _ w3 hE4 rfl
  have H := H.ext hE4
  refine RW.runP 4 [0, 1, 23, 24, 25] (sq 9 13) [(0, .slice a xs.length c), (1, .int .i64 limit), (23, .agg #[.int .u64 0, .int .u64 0, .string (⟨#[]⟩), .slice none 0 0, .slice none 0 0, .slice none 0 0, .slice none 0 0, .int .i64 0, .int .i64 0, .int .i64 0]), (24, .slice none 0 0), (25, .int .i64 2)] (by as_aux_lemma => kernel_rfl) (by as_aux_lemma => kernel_rfl) ?_
  refine RW.new (κ := .seq) (d := some 5) (r := (sq 10 13)) (o := .cells #[.int .u64 0, .int .u64 0, .string (⟨#[]⟩), .slice none 0 0, .slice none 0 0, .slice none 0 0, .slice none 0 0, .int .i64 0, .int .i64 0, .int .i64 0] 32 (0, 0)) (v := fun b => .pointer (some ⟨b, 0, none⟩)) (fun b => by as_aux_lemma => kernel_rfl) (nofun) H ?_
  intro b5 w6 H
  refine RW.store (d := none) (r := (sq 11 13)) (T := 32) (b := b5) (k := 0) (v := .agg #[.int .u64 0, .int .u64 0, .string (⟨#[]⟩), .slice none 0 0, .slice none 0 0, .slice none 0 0, .slice none 0 0, .int .i64 0, .int .i64 0, .int .i64 0]) (c' := #[.int .u64 0, .int .u64 0, .string (⟨#[]⟩), .slice none 0 0, .slice none 0 0, .slice none 0 0, .slice none 0 0, .int .i64 0, .int .i64 0, .int .i64 0]) (M' := [(b5, .cells #[.int .u64 0, .int .u64 0, .string (⟨#[]⟩), .slice none 0 0, .slice none 0 0, .slice none 0 0, .slice none 0 0, .int .i64 0, .int .i64 0, .int .i64 0] 32 (0, 0))]) (by as_aux_lemma => kernel_rfl) H 0 rfl (by as_aux_lemma => kernel_rfl) (by as_aux_lemma => kernel_rfl) ?_
  intro w7 H
  refine RW.fin 2 [0, 1, 5, 7] [(0, .slice a xs.length c), (1, .int .i64 limit), (5, .pointer (some ⟨b5, 0, none⟩)), (7, .int .i64 2)] (by as_aux_lemma => kernel_rfl) ?_
  refine WK.run 5 [0, 1] [.code (cd Try.prog 5 [2, 0, 1, 0, 0]), .code (cd Try.prog 5 [2, 0, 1, 0, 1]), .code (cd Try.prog 5 [3])] [(0, .slice a xs.length c), (1, .int .i64 limit)] (by as_aux_lemma => kernel_rfl) ?_
  refine WK.reg1 (l := sq 0 15) (by as_aux_lemma => kernel_rfl) (by as_aux_lemma => kernel_rfl) ?_
  refine RW.runP 4 [1, 31] (sq 4 15) [(1, .int .i64 limit), (31, .bool (decide ((((xs.length : Nat) : Int) : Int) > 65536)))] (by as_aux_lemma => kernel_rfl) (by as_aux_lemma => kernel_rfl) ?_
  refine RW.test (fun b_ => [(1, .int .i64 limit), (31, .bool b_)]) (decide ((((xs.length : Nat) : Int) : Int) > 65536)) (fun h8 => ?_) (fun h8 => ?_)
  · skip
    replace h8 := of_decide_eq_true h8
    omega
  · skip
    replace h8 := of_decide_eq_false h8
    refine RW.runP 4 [1, 35] (sq 8 15) [(1, .int .i64 limit), (35, .bool (decide ((limit : Int) < 1)))] (by as_aux_lemma => kernel_rfl) (by as_aux_lemma => kernel_rfl) ?_
    refine RW.test (fun b_ => [(1, .int .i64 limit), (35, .bool b_)]) (decide ((limit : Int) < 1)) (fun h9 => ?_) (fun h9 => ?_)
    · skip
      replace h9 := of_decide_eq_true h9
      refine RW.runP 4 [39] (sq 12 15) [(39, .bool true)] (by as_aux_lemma => kernel_rfl) (by as_aux_lemma => kernel_rfl) ?_
      refine RW.call (κ := .seq) (d := some 40) (r := (sq 13 15)) (g := 22) (args := #[]) (by as_aux_lemma => kernel_rfl) (nofun) (heads_spec (S := fun _ => True)) ?_
      rintro _ w10 hE11 rfl
      have H := H.ext hE11
      refine RW.fin 2 [4] [(4, .bool true)] (by as_aux_lemma => kernel_rfl) ?_
      refine WK.ret (v := .bool true) Try.func5 (by as_aux_lemma => kernel_rfl) (by as_aux_lemma => kernel_rfl) ?_
      exact ⟨_, rfl, H.done, rfl⟩
    · skip
      replace h9 := of_decide_eq_false h9
      refine RW.runP 4 [39] (sq 12 15) [(39, .bool (decide ((limit : Int) > 100000)))] (by as_aux_lemma => kernel_rfl) (by as_aux_lemma => kernel_rfl) ?_
      refine RW.test (fun b_ => [(39, .bool b_)]) (decide ((limit : Int) > 100000)) (fun h12 => ?_) (fun h12 => ?_)
      · skip
        replace h12 := of_decide_eq_true h12
        refine RW.call (κ := .seq) (d := some 40) (r := (sq 13 15)) (g := 22) (args := #[]) (by as_aux_lemma => kernel_rfl) (nofun) (heads_spec (S := fun _ => True)) ?_
        rintro _ w13 hE14 rfl
        have H := H.ext hE14
        refine RW.fin 2 [4] [(4, .bool true)] (by as_aux_lemma => kernel_rfl) ?_
        refine WK.ret (v := .bool true) Try.func5 (by as_aux_lemma => kernel_rfl) (by as_aux_lemma => kernel_rfl) ?_
        exact ⟨_, rfl, H.done, rfl⟩
      · skip
        replace h12 := of_decide_eq_false h12
        omega

set_option maxHeartbeats 4000000 in
theorem ends_ok {S : Nat → Prop} {w : World} {xs : List (BitVec 8)} {a : Option Addr} {c : Nat} (limit : Int) (hli : -9223372036854775808 ≤ limit ∧ limit ≤ 9223372036854775807) (h : (Shape.slice (Shape.bv .u8 8)).rep S w [.slice a xs.length c] xs) (hs : xs.length ≤ 65536) (hl9 : 1 ≤ limit ∧ limit ≤ 100000) :
    Calls Try.prog 5 #[.slice a xs.length c, .int .i64 limit] w (Ret fun v w' => Ext w w' ∧ v = .bool true) := by
  refine WK.calls1 (fn := Try.f5) (n := 118) (σ := [(0, .slice a xs.length c), (1, .int .i64 limit)]) Try.func5 rfl (by as_aux_lemma => kernel_rfl) (by as_aux_lemma => kernel_rfl) (by as_aux_lemma => kernel_rfl) ?_
  have H := Hp.startF (w := w) (S := S) (G := [Rp (Shape.slice (Shape.bv .u8 8)) [.slice a xs.length c] xs]) (.rp h .nil)
  refine WK.run 3 [0, 1] [.code (cd Try.prog 5 [1, 0]), .code (cd Try.prog 5 [2])] [(0, .slice a xs.length c), (1, .int .i64 limit)] (by as_aux_lemma => kernel_rfl) ?_
  refine WK.reg1 (l := sq 0 13) (by as_aux_lemma => kernel_rfl) (by as_aux_lemma => kernel_rfl) ?_
  refine RW.runP 1 [0, 1, 18] (sq 1 13) [(0, .slice a xs.length c), (1, .int .i64 limit), (18, .slice a xs.length c)] (by as_aux_lemma => kernel_rfl) (by as_aux_lemma => kernel_rfl) ?_
  refine RW.new (κ := .seq) (d := some 19) (r := (sq 2 13)) (o := .cells #[.int .i64 4, .int .i64 5] 3 (0, 0)) (v := fun b => .slice (some ⟨b, 0, none⟩) 2 2) (fun b => by as_aux_lemma => kernel_rfl) (nofun) H ?_
  intro b1 w2 H
  refine RW.runP 2 [0, 1, 18, 20, 21] (sq 4 13) [(0, .slice a xs.length c), (1, .int .i64 limit), (18, .slice a xs.length c), (20, .agg #[.int .i64 0, .int .u64 1, .slice (some ⟨b1, 0, none⟩) 2 2, .int .u64 0]), (21, .int .i64 limit)] (by as_aux_lemma => kernel_rfl) (by as_aux_lemma => kernel_rfl) ?_
  have H := H.freeze 0 rfl (Shape.int .i64) ([4, 5] : List Int) 2 (by simp [maxLen]) (by first | exact Nat.le_refl _ | simp) (EsP.cons (c := [.int .i64 4]) (Shape.int_mk (by decide)) (EsP.cons (c := [.int .i64 5]) (Shape.int_mk (by decide)) EsP.nil))
  have H : Hp w S [] [] [] [Rp (Shape.slice (Shape.int .i64)) [.slice (some ⟨b1, 0, none⟩) 2 2] ([4, 5] : List Int), Rp (Shape.slice (Shape.bv .u8 8)) [.slice a xs.length c] xs] _ := H
  refine RW.call (κ := .seq) (d := some 22) (r := (sq 5 13)) (g := 18) (args := #[.int .u64 1, .int .u64 1, .string (⟨#[97]⟩), .slice a xs.length c, .int .i64 1, .int .i64 2, .agg #[.int .i64 0, .int .u64 1, .slice (some ⟨b1, 0, none⟩) 2 2, .int .u64 0], .int .i64 limit]) (by as_aux_lemma => kernel_rfl) (nofun) (begin_ok (xs := xs) (R := ⟨0, 1, ([4, 5] : List Int), 0⟩) 1 1 (⟨#[97]⟩) (H.rp 1 rfl) (res_mk (Shape.int_mk (by decide)) (Shape.int_mk (by decide)) (H.rp 0 rfl) (Shape.int_mk (by decide))) limit (by first | assumption | decide | (simp [maxLen]; done)) (by omega) (by omega) 1 2 (by first | omega | (simp; done)) (by omega) (by omega) (by omega) (by first | rfl | omega) (by omega)) ?_
  rintro _ w3 hE7 ⟨cs4, a5, c6, rfl, hr8, hr9⟩
  have H0s := H
  replace hr8 : wrS.rep _ _ cs4 (Wt xs limit 0) := hr8
  obtain ⟨a3q10, k3q10, a4q10, k4q10, a5q10, k5q10, a6q10, k6q10, rfl, hf11, hf12, hf13, hf14, hf15, hf16, hf17, hf18, hf19, hf20⟩ := wr_open hr8
  have H := H.addN hE7 (F := Rp (Shape.slice msgS) [.slice a5 ((msgsOf (Wt xs limit 0)).length) c6] (msgsOf (Wt xs limit 0))) hr9
  have H := H.add (F := Rp (Shape.slice hdrS) [.slice a3q10 ((Wt xs limit 0).heads.length) k3q10] ((Wt xs limit 0).heads)) ((H0s.addN hE7 (F := Rp (Shape.slice hdrS) [.slice a3q10 ((Wt xs limit 0).heads.length) k3q10] ((Wt xs limit 0).heads)) hf14).rp 0 rfl)
  have H := H.add (F := Rp (Shape.slice (Shape.slice (Shape.bv .u8 8))) [.slice a4q10 ((Wt xs limit 0).chunks.length) k4q10] ((Wt xs limit 0).chunks)) ((H0s.addN hE7 (F := Rp (Shape.slice (Shape.slice (Shape.bv .u8 8))) [.slice a4q10 ((Wt xs limit 0).chunks.length) k4q10] ((Wt xs limit 0).chunks)) hf15).rp 0 rfl)
  have H := H.add (F := Rp (Shape.slice (Shape.int .i64)) [.slice a5q10 ((Wt xs limit 0).nodes.length) k5q10] ((Wt xs limit 0).nodes)) ((H0s.addN hE7 (F := Rp (Shape.slice (Shape.int .i64)) [.slice a5q10 ((Wt xs limit 0).nodes.length) k5q10] ((Wt xs limit 0).nodes)) hf16).rp 0 rfl)
  have H := H.add (F := Rp (Shape.slice (Shape.int .i64)) [.slice a6q10 ((Wt xs limit 0).acks.length) k6q10] ((Wt xs limit 0).acks)) ((H0s.addN hE7 (F := Rp (Shape.slice (Shape.int .i64)) [.slice a6q10 ((Wt xs limit 0).acks.length) k6q10] ((Wt xs limit 0).acks)) hf17).rp 0 rfl)
  refine RW.runP 4 [0, 1, 23, 24, 25] (sq 9 13) [(0, .slice a xs.length c), (1, .int .i64 limit), (23, .agg #[.int .u64 ((Wt xs limit 0).client), .int .u64 ((Wt xs limit 0).seq), .string ((Wt xs limit 0).key), .slice a3q10 ((Wt xs limit 0).heads.length) k3q10, .slice a4q10 ((Wt xs limit 0).chunks.length) k4q10, .slice a5q10 ((Wt xs limit 0).nodes.length) k5q10, .slice a6q10 ((Wt xs limit 0).acks.length) k6q10, .int .i64 ((Wt xs limit 0).waited), .int .i64 ((Wt xs limit 0).limit), .int .i64 ((Wt xs limit 0).done)]), (24, .slice a5 ((msgsOf (Wt xs limit 0)).length) c6), (25, .int .i64 0)] (by as_aux_lemma => kernel_rfl) (by as_aux_lemma => kernel_rfl) ?_
  refine RW.new (κ := .seq) (d := some 5) (r := (sq 10 13)) (o := .cells #[.int .u64 0, .int .u64 0, .string (⟨#[]⟩), .slice none 0 0, .slice none 0 0, .slice none 0 0, .slice none 0 0, .int .i64 0, .int .i64 0, .int .i64 0] 32 (0, 0)) (v := fun b => .pointer (some ⟨b, 0, none⟩)) (fun b => by as_aux_lemma => kernel_rfl) (nofun) H ?_
  intro b21 w22 H
  refine RW.store (d := none) (r := (sq 11 13)) (T := 32) (b := b21) (k := 0) (v := .agg #[.int .u64 ((Wt xs limit 0).client), .int .u64 ((Wt xs limit 0).seq), .string ((Wt xs limit 0).key), .slice a3q10 ((Wt xs limit 0).heads.length) k3q10, .slice a4q10 ((Wt xs limit 0).chunks.length) k4q10, .slice a5q10 ((Wt xs limit 0).nodes.length) k5q10, .slice a6q10 ((Wt xs limit 0).acks.length) k6q10, .int .i64 ((Wt xs limit 0).waited), .int .i64 ((Wt xs limit 0).limit), .int .i64 ((Wt xs limit 0).done)]) (c' := #[.int .u64 ((Wt xs limit 0).client), .int .u64 ((Wt xs limit 0).seq), .string ((Wt xs limit 0).key), .slice a3q10 ((Wt xs limit 0).heads.length) k3q10, .slice a4q10 ((Wt xs limit 0).chunks.length) k4q10, .slice a5q10 ((Wt xs limit 0).nodes.length) k5q10, .slice a6q10 ((Wt xs limit 0).acks.length) k6q10, .int .i64 ((Wt xs limit 0).waited), .int .i64 ((Wt xs limit 0).limit), .int .i64 ((Wt xs limit 0).done)]) (M' := [(b21, .cells #[.int .u64 ((Wt xs limit 0).client), .int .u64 ((Wt xs limit 0).seq), .string ((Wt xs limit 0).key), .slice a3q10 ((Wt xs limit 0).heads.length) k3q10, .slice a4q10 ((Wt xs limit 0).chunks.length) k4q10, .slice a5q10 ((Wt xs limit 0).nodes.length) k5q10, .slice a6q10 ((Wt xs limit 0).acks.length) k6q10, .int .i64 ((Wt xs limit 0).waited), .int .i64 ((Wt xs limit 0).limit), .int .i64 ((Wt xs limit 0).done)] 32 (0, 0))]) (by as_aux_lemma => kernel_rfl) H 0 rfl (by as_aux_lemma => kernel_rfl) (by as_aux_lemma => kernel_rfl) ?_
  intro w23 H
  refine RW.fin 2 [0, 1, 5, 7] [(0, .slice a xs.length c), (1, .int .i64 limit), (5, .pointer (some ⟨b21, 0, none⟩)), (7, .int .i64 0)] (by as_aux_lemma => kernel_rfl) ?_
  refine WK.run 8 [1, 5, 43] [.code (cd Try.prog 5 [3, 0, 1]), .code (cd Try.prog 5 [4])] [(1, .int .i64 limit), (5, .pointer (some ⟨b21, 0, none⟩)), (43, .bool (decide ((limit : Int) > 300)))] (by as_aux_lemma => kernel_rfl) ?_
  refine WK.cond1 (decide ((limit : Int) > 300)) (by as_aux_lemma => kernel_rfl) (by as_aux_lemma => kernel_rfl) (fun h24 => ?_) (fun h24 => ?_)
  · skip
    replace h24 := of_decide_eq_true h24
    refine WK.run 1 [] [.code (cd Try.prog 5 [3, 0, 1, 0, 0]), .code (cd Try.prog 5 [3, 0, 1, 0, 1]), .code (cd Try.prog 5 [4])] [] (by as_aux_lemma => kernel_rfl) ?_
    refine WK.reg1 (l := sq 0 2) (by as_aux_lemma => kernel_rfl) (by as_aux_lemma => kernel_rfl) ?_
    refine RW.call (κ := .seq) (d := some 44) (r := (sq 1 2)) (g := 22) (args := #[]) (by as_aux_lemma => kernel_rfl) (nofun) (heads_spec (S := fun _ => True)) ?_
    rintro _ w25 hE26 rfl
    have H := H.ext hE26
    refine RW.fin 1 [4] [(4, .bool true)] (by as_aux_lemma => kernel_rfl) ?_
    refine WK.ret (v := .bool true) Try.func5 (by as_aux_lemma => kernel_rfl) (by as_aux_lemma => kernel_rfl) ?_
    exact ⟨_, rfl, H.done, rfl⟩
  · skip
    replace h24 := of_decide_eq_false h24
    refine WK.run 5 [1, 5, 8] [.code (cd Try.prog 5 [4, 0, 1, 0]), .inBlock 0, .code (cd Try.prog 5 [5])] [(1, .int .i64 limit), (5, .pointer (some ⟨b21, 0, none⟩)), (8, .int .i64 1)] (by as_aux_lemma => kernel_rfl) ?_
    have H := H.pick [3, 2, 1, 0] (G' := [Rp (Shape.slice hdrS) [.slice a3q10 (Wt xs limit 0).heads.length k3q10] (Wt xs limit 0).heads, Rp (Shape.slice (Shape.slice (Shape.bv .u8 8))) [.slice a4q10 (Wt xs limit 0).chunks.length k4q10] (Wt xs limit 0).chunks, Rp (Shape.slice (Shape.int .i64)) [.slice a5q10 (Wt xs limit 0).nodes.length k5q10] (Wt xs limit 0).nodes, Rp (Shape.slice (Shape.int .i64)) [.slice a6q10 (Wt xs limit 0).acks.length k6q10] (Wt xs limit 0).acks]) rfl
    refine WK.loop (α := Nat × Wr × Option Addr × Nat × Option Addr × Nat × Option Addr × Nat × Option Addr × Nat) (b := cd Try.prog 5 [4, 0, 1, 0, 0]) (by as_aux_lemma => kernel_rfl) (fun st_ => match st_ with | (i, D, a3q, k3q, a4q, k4q, a5q, k5q, a6q, k6q) => [(1, .int .i64 limit), (5, .pointer (some ⟨b21, 0, none⟩)), (8, .int .i64 (i : Int))]) (fun st_ w' => match st_ with | (i, D, a3q, k3q, a4q, k4q, a5q, k5q, a6q, k6q) => Hp w S [] [(b21, .cells #[.int .u64 D.client, .int .u64 D.seq, .string D.key, .slice a3q D.heads.length k3q, .slice a4q D.chunks.length k4q, .slice a5q D.nodes.length k5q, .slice a6q D.acks.length k6q, .int .i64 D.waited, .int .i64 D.limit, .int .i64 D.done] 32 (0, 0))] [] [Rp (Shape.slice hdrS) [.slice a3q D.heads.length k3q] D.heads, Rp (Shape.slice (Shape.slice (Shape.bv .u8 8))) [.slice a4q D.chunks.length k4q] D.chunks, Rp (Shape.slice (Shape.int .i64)) [.slice a5q D.nodes.length k5q] D.nodes, Rp (Shape.slice (Shape.int .i64)) [.slice a6q D.acks.length k6q] D.acks] w' ∧ 1 ≤ i ∧ (i : Int) ≤ limit + 1 ∧ D = Wt xs limit ((i : Int) - 1)) (fun st_ => match st_ with | (i, D, a3q, k3q, a4q, k4q, a5q, k5q, a6q, k6q) => (limit + 1 - i).toNat) (1, Wt xs limit 0, a3q10, k3q10, a4q10, k4q10, a5q10, k5q10, a6q10, k6q10) ⟨H, by omega, by omega, rfl⟩ (rfl) ?_
    rintro ⟨i, D, a3q, k3q, a4q, k4q, a5q, k5q, a6q, k6q⟩ w28 ⟨H, hinv0⟩ hback27
    obtain ⟨hq1, hq2, hq3, hq4, hq5, hq6⟩ := Wt_bd (xs := xs) (limit := limit) (i := (i : Int) - 1) (by omega) hl9
    have hq7 := Wt_heads (xs := xs) (limit := limit) (i := (i : Int) - 1)
    have hcb := Wt_cb (xs := xs) (limit := limit) (i := (i : Int) - 1) hs
    rw [← hinv0.2.2] at hq1 hq2 hq3 hq4 hq5 hq6 hq7 hcb
    refine WK.run 3 [1, 5, 8, 47] [.code (cd Try.prog 5 [4, 0, 1, 0, 0, 0, 1]), .code (cd Try.prog 5 [4, 0, 1, 0, 0, 1]), .inLoop (cd Try.prog 5 [4, 0, 1, 0, 0]), .inBlock 0, .code (cd Try.prog 5 [5])] [(1, .int .i64 limit), (5, .pointer (some ⟨b21, 0, none⟩)), (8, .int .i64 (i : Int)), (47, .bool (decide (((i : Int) : Int) ≤ limit)))] (by as_aux_lemma => kernel_rfl) ?_
    refine WK.cond1 (decide (((i : Int) : Int) ≤ limit)) (by as_aux_lemma => kernel_rfl) (by as_aux_lemma => kernel_rfl) (fun h29 => ?_) (fun h29 => ?_)
    · skip
      replace h29 := of_decide_eq_true h29
      refine WK.run 4 [1, 5, 8] [.code (cd Try.prog 5 [4, 0, 1, 0, 0, 1, 0, 0, 0]), .code (cd Try.prog 5 [4, 0, 1, 0, 0, 1, 0, 0, 1]), .inBlock 1, .code (cd Try.prog 5 [4, 0, 1, 0, 0, 2]), .inLoop (cd Try.prog 5 [4, 0, 1, 0, 0]), .inBlock 0, .code (cd Try.prog 5 [5])] [(1, .int .i64 limit), (5, .pointer (some ⟨b21, 0, none⟩)), (8, .int .i64 (i : Int))] (by as_aux_lemma => kernel_rfl) ?_
      refine WK.reg1 (l := sq 0 10) (by as_aux_lemma => kernel_rfl) (by as_aux_lemma => kernel_rfl) ?_
      refine RW.load (κ := .seq) (d := some 51) (r := (sq 1 10)) (T := 32) (b := b21) (o' := 0) (k := 0) (v := .agg #[.int .u64 D.client, .int .u64 D.seq, .string D.key, .slice a3q D.heads.length k3q, .slice a4q D.chunks.length k4q, .slice a5q D.nodes.length k5q, .slice a6q D.acks.length k6q, .int .i64 D.waited, .int .i64 D.limit, .int .i64 D.done]) (by as_aux_lemma => kernel_rfl) (H.cells 0 rfl) rfl (by as_aux_lemma => kernel_rfl) ?_
      -- call
      refine RW.call (κ := .seq) (d := some 52) (r := (sq 2 10)) (g := 25) (args := #[.agg #[.int .u64 D.client, .int .u64 D.seq, .string D.key, .slice a3q D.heads.length k3q, .slice a4q D.chunks.length k4q, .slice a5q D.nodes.length k5q, .slice a6q D.acks.length k6q, .int .i64 D.waited, .int .i64 D.limit, .int .i64 D.done]]) (by as_aux_lemma => kernel_rfl) (nofun) (tick_spec (W := D) (wr_mk (l0 := [.int .u64 D.client]) (y0 := D.client) (l1 := [.int .u64 D.seq]) (y1 := D.seq) (l2 := [.string D.key]) (y2 := D.key) (l3 := [.slice a3q D.heads.length k3q]) (y3 := D.heads) (l4 := [.slice a4q D.chunks.length k4q]) (y4 := D.chunks) (l5 := [.slice a5q D.nodes.length k5q]) (y5 := D.nodes) (l6 := [.slice a6q D.acks.length k6q]) (y6 := D.acks) (l7 := [.int .i64 D.waited]) (y7 := D.waited) (l8 := [.int .i64 D.limit]) (y8 := D.limit) (l9 := [.int .i64 D.done]) (y9 := D.done) (Shape.u64_in (by first | omega | (simp <;> omega)) (by first | omega | (simp <;> omega))) (Shape.u64_in (by first | omega | (simp <;> omega)) (by first | omega | (simp <;> omega))) ⟨rfl, by first | assumption | (simp [maxLen]; done) | decide⟩ (H.rp 0 rfl) (H.rp 1 rfl) (H.rp 2 rfl) (H.rp 3 rfl) (Shape.i64_in (by first | omega | (simp <;> omega)) (by first | omega | (simp <;> omega))) (Shape.i64_in (by first | omega | (simp <;> omega)) (by first | omega | (simp <;> omega))) (Shape.i64_in (by first | omega | (simp <;> omega)) (by first | omega | (simp <;> omega)))) (by first | assumption | omega) (by first | assumption | omega) (by first | assumption | simpa using hcb)) ?_
      rintro _ w30 hE31 ⟨cs34, a36, c37, D33, D35, D38, rfl, hr39, hr40, hlaw32⟩
      have H0s := H
      obtain ⟨a3q41, k3q41, a4q41, k4q41, a5q41, k5q41, a6q41, k6q41, rfl, hf42, hf43, hf44, hf45, hf46, hf47, hf48, hf49, hf50, hf51⟩ := wr_open hr39
      have H := H.addN hE31 (F := Rp (Shape.slice hdrS) [.slice a3q41 D33.heads.length k3q41] D33.heads) hf45
      have H := H.add (F := Rp (Shape.slice (Shape.slice (Shape.bv .u8 8))) [.slice a4q41 D33.chunks.length k4q41] D33.chunks) ((H0s.addN hE31 (F := Rp (Shape.slice (Shape.slice (Shape.bv .u8 8))) [.slice a4q41 D33.chunks.length k4q41] D33.chunks) hf46).rp 0 rfl)
      have H := H.add (F := Rp (Shape.slice (Shape.int .i64)) [.slice a5q41 D33.nodes.length k5q41] D33.nodes) ((H0s.addN hE31 (F := Rp (Shape.slice (Shape.int .i64)) [.slice a5q41 D33.nodes.length k5q41] D33.nodes) hf47).rp 0 rfl)
      have H := H.add (F := Rp (Shape.slice (Shape.int .i64)) [.slice a6q41 D33.acks.length k6q41] D33.acks) ((H0s.addN hE31 (F := Rp (Shape.slice (Shape.int .i64)) [.slice a6q41 D33.acks.length k6q41] D33.acks) hf48).rp 0 rfl)
      have H := H.add (F := Rp (Shape.slice msgS) [.slice a36 D35.length c37] D35) ((H0s.addN hE31 (F := Rp (Shape.slice msgS) [.slice a36 D35.length c37] D35) hr40).rp 0 rfl)
      refine RW.runP 4 [1, 5, 8, 53, 54, 55] (sq 6 10) [(1, .int .i64 limit), (5, .pointer (some ⟨b21, 0, none⟩)), (8, .int .i64 (i : Int)), (53, .agg #[.int .u64 D33.client, .int .u64 D33.seq, .string D33.key, .slice a3q41 D33.heads.length k3q41, .slice a4q41 D33.chunks.length k4q41, .slice a5q41 D33.nodes.length k5q41, .slice a6q41 D33.acks.length k6q41, .int .i64 D33.waited, .int .i64 D33.limit, .int .i64 D33.done]), (54, .slice a36 D35.length c37), (55, .int .i64 D38)] (by as_aux_lemma => kernel_rfl) (by as_aux_lemma => kernel_rfl) ?_
      refine RW.new (κ := .seq) (d := some 9) (r := (sq 7 10)) (o := .cells #[.int .u64 0, .int .u64 0, .string (⟨#[]⟩), .slice none 0 0, .slice none 0 0, .slice none 0 0, .slice none 0 0, .int .i64 0, .int .i64 0, .int .i64 0] 32 (0, 0)) (v := fun b => .pointer (some ⟨b, 0, none⟩)) (fun b => by as_aux_lemma => kernel_rfl) (nofun) H ?_
      intro b52 w53 H
      refine RW.store (d := none) (r := (sq 8 10)) (T := 32) (b := b52) (k := 0) (v := .agg #[.int .u64 D33.client, .int .u64 D33.seq, .string D33.key, .slice a3q41 D33.heads.length k3q41, .slice a4q41 D33.chunks.length k4q41, .slice a5q41 D33.nodes.length k5q41, .slice a6q41 D33.acks.length k6q41, .int .i64 D33.waited, .int .i64 D33.limit, .int .i64 D33.done]) (c' := #[.int .u64 D33.client, .int .u64 D33.seq, .string D33.key, .slice a3q41 D33.heads.length k3q41, .slice a4q41 D33.chunks.length k4q41, .slice a5q41 D33.nodes.length k5q41, .slice a6q41 D33.acks.length k6q41, .int .i64 D33.waited, .int .i64 D33.limit, .int .i64 D33.done]) (M' := [(b52, .cells #[.int .u64 D33.client, .int .u64 D33.seq, .string D33.key, .slice a3q41 D33.heads.length k3q41, .slice a4q41 D33.chunks.length k4q41, .slice a5q41 D33.nodes.length k5q41, .slice a6q41 D33.acks.length k6q41, .int .i64 D33.waited, .int .i64 D33.limit, .int .i64 D33.done] 32 (0, 0)), (b21, .cells #[.int .u64 D.client, .int .u64 D.seq, .string D.key, .slice a3q D.heads.length k3q, .slice a4q D.chunks.length k4q, .slice a5q D.nodes.length k5q, .slice a6q D.acks.length k6q, .int .i64 D.waited, .int .i64 D.limit, .int .i64 D.done] 32 (0, 0))]) (by as_aux_lemma => kernel_rfl) H 0 rfl (by as_aux_lemma => kernel_rfl) (by as_aux_lemma => kernel_rfl) ?_
      intro w54 H
      refine RW.fin 2 [1, 5, 8, 9, 10, 11] [(1, .int .i64 limit), (5, .pointer (some ⟨b21, 0, none⟩)), (8, .int .i64 (i : Int)), (9, .pointer (some ⟨b52, 0, none⟩)), (10, .slice a36 D35.length c37), (11, .int .i64 D38)] (by as_aux_lemma => kernel_rfl) ?_
      refine WK.run 2 [1, 5, 8, 9, 10, 11] [.code (cd Try.prog 5 [4, 0, 1, 0, 0, 1, 0, 0, 1, 0, 0]), .code (cd Try.prog 5 [4, 0, 1, 0, 0, 1, 0, 0, 1, 0, 1]), .code (cd Try.prog 5 [4, 0, 1, 0, 0, 1, 0, 0, 2]), .inBlock 1, .code (cd Try.prog 5 [4, 0, 1, 0, 0, 2]), .inLoop (cd Try.prog 5 [4, 0, 1, 0, 0]), .inBlock 0, .code (cd Try.prog 5 [5])] [(1, .int .i64 limit), (5, .pointer (some ⟨b21, 0, none⟩)), (8, .int .i64 (i : Int)), (9, .pointer (some ⟨b52, 0, none⟩)), (10, .slice a36 D35.length c37), (11, .int .i64 D38)] (by as_aux_lemma => kernel_rfl) ?_
      refine WK.reg1 (l := sq 0 21) (by as_aux_lemma => kernel_rfl) (by as_aux_lemma => kernel_rfl) ?_
      refine RW.runP 3 [1, 5, 8, 9, 10, 58] (sq 3 21) [(1, .int .i64 limit), (5, .pointer (some ⟨b21, 0, none⟩)), (8, .int .i64 (i : Int)), (9, .pointer (some ⟨b52, 0, none⟩)), (10, .slice a36 D35.length c37), (58, .bool (D38 != 0))] (by as_aux_lemma => kernel_rfl) (by as_aux_lemma => kernel_rfl) ?_
      refine RW.test (fun b_ => [(1, .int .i64 limit), (5, .pointer (some ⟨b21, 0, none⟩)), (8, .int .i64 (i : Int)), (9, .pointer (some ⟨b52, 0, none⟩)), (10, .slice a36 D35.length c37), (58, .bool b_)]) (D38 != 0) (fun h55 => ?_) (fun h55 => ?_)
      · skip
        replace h55 := bne_iff_ne.1 h55
        have hT9 := hlaw32.trans (hinv0.2.2 ▸ tick_wait (by omega) (by omega) (by omega))
        exact absurd (show D38 = 0 by simpa using congrArg (fun q => q.2.2) hT9) h55
      · skip
        replace h55 := (bne_eq_false_iff_eq.1 h55)
        have hT9 := hlaw32.trans (hinv0.2.2 ▸ tick_wait (by omega) (by omega) (by omega))
        obtain ⟨hT1, hT2, hT3⟩ : D33 = Wt xs limit ((i : Int) - 1 + 1) ∧ D35 = (if ((i : Int) - 1 + 1) % 4 = 0 then msgsOf (Wt xs limit ((i : Int) - 1 + 1)) else []) ∧ D38 = 0 := by simpa using hT9
        rw [Int.sub_add_cancel] at hT1 hT2
        refine RW.runP 4 [1, 5, 8, 9, 10, 58, 61, 62] (sq 7 21) [(1, .int .i64 limit), (5, .pointer (some ⟨b21, 0, none⟩)), (8, .int .i64 (i : Int)), (9, .pointer (some ⟨b52, 0, none⟩)), (10, .slice a36 D35.length c37), (58, .bool false), (61, .bool (((D35.length : Nat) : Int) == 2)), (62, .int .i64 (i : Int))] (by as_aux_lemma => kernel_rfl) (by as_aux_lemma => kernel_rfl) ?_
        refine RW.pv (κ := .seq) (d := some 63) (r := (sq 8 21)) (v := .int .i64 ((i : Int).tmod 4)) (v' := .int .i64 ((i : Int) % 4)) (by as_aux_lemma => kernel_rfl) (rem_id (by omega)) ?_
        refine RW.runP 4 [1, 5, 8, 9, 10, 67] (sq 12 21) [(1, .int .i64 limit), (5, .pointer (some ⟨b21, 0, none⟩)), (8, .int .i64 (i : Int)), (9, .pointer (some ⟨b52, 0, none⟩)), (10, .slice a36 D35.length c37), (67, .bool (!((((D35.length : Nat) : Int) == 2) == (((i : Int) % 4) == 0))))] (by as_aux_lemma => kernel_rfl) (by as_aux_lemma => kernel_rfl) ?_
        refine RW.test (fun b_ => [(1, .int .i64 limit), (5, .pointer (some ⟨b21, 0, none⟩)), (8, .int .i64 (i : Int)), (9, .pointer (some ⟨b52, 0, none⟩)), (10, .slice a36 D35.length c37), (67, .bool b_)]) (!((((D35.length : Nat) : Int) == 2) == (((i : Int) % 4) == 0))) (fun h56 => ?_) (fun h56 => ?_)
        · skip
          replace h56 : (((((D35.length : Nat) : Int) == 2) == (((i : Int) % 4) == 0))) = false := by revert h56; cases (((((D35.length : Nat) : Int) == 2) == (((i : Int) % 4) == 0))) <;> simp
          replace h56 := ne_of_beq_false h56
          rw [hT2] at h56
          split at h56
          · rename_i hm9
            rw [Wt_msgs] at h56
            exact absurd h56 (by simp [hm9])
          · rename_i hm9
            exact absurd h56 (by simp [hm9])
        · skip
          replace h56 : (((((D35.length : Nat) : Int) == 2) == (((i : Int) % 4) == 0))) = true := by revert h56; cases (((((D35.length : Nat) : Int) == 2) == (((i : Int) % 4) == 0))) <;> simp
          replace h56 := eq_of_beq h56
          refine RW.runP 4 [1, 5, 8, 9, 10, 67, 71] (sq 16 21) [(1, .int .i64 limit), (5, .pointer (some ⟨b21, 0, none⟩)), (8, .int .i64 (i : Int)), (9, .pointer (some ⟨b52, 0, none⟩)), (10, .slice a36 D35.length c37), (67, .bool false), (71, .bool (((D35.length : Nat) : Int) != 0))] (by as_aux_lemma => kernel_rfl) (by as_aux_lemma => kernel_rfl) ?_
          refine RW.test (fun b_ => [(1, .int .i64 limit), (5, .pointer (some ⟨b21, 0, none⟩)), (8, .int .i64 (i : Int)), (9, .pointer (some ⟨b52, 0, none⟩)), (10, .slice a36 D35.length c37), (67, .bool false), (71, .bool b_)]) (((D35.length : Nat) : Int) != 0) (fun h57 => ?_) (fun h57 => ?_)
          · skip
            replace h57 := bne_iff_ne.1 h57
            refine RW.fin 5 [1, 5, 8, 9, 76] [(1, .int .i64 limit), (5, .pointer (some ⟨b21, 0, none⟩)), (8, .int .i64 (i : Int)), (9, .pointer (some ⟨b52, 0, none⟩)), (76, .bool (((D35.length : Nat) : Int) != 2))] (by as_aux_lemma => kernel_rfl) ?_
            refine WK.cond1 (((D35.length : Nat) : Int) != 2) (by as_aux_lemma => kernel_rfl) (by as_aux_lemma => kernel_rfl) (fun h58 => ?_) (fun h58 => ?_)
            · skip
              replace h58 := bne_iff_ne.1 h58
              have hlen9 : D35.length = 2 ∨ D35.length = 0 := by rw [hT2]; split; exact .inl Wt_msgs; exact .inr rfl
              omega
            · skip
              replace h58 := (bne_eq_false_iff_eq.1 h58)
              refine WK.run 1 [1, 5, 8, 9] [.code (cd Try.prog 5 [4, 0, 1, 0, 0, 1, 0, 0, 2]), .inBlock 1, .code (cd Try.prog 5 [4, 0, 1, 0, 0, 2]), .inLoop (cd Try.prog 5 [4, 0, 1, 0, 0]), .inBlock 0, .code (cd Try.prog 5 [5])] [(1, .int .i64 limit), (5, .pointer (some ⟨b21, 0, none⟩)), (8, .int .i64 (i : Int)), (9, .pointer (some ⟨b52, 0, none⟩))] (by as_aux_lemma => kernel_rfl) ?_
              refine WK.reg1 (l := sq 0 2) (by as_aux_lemma => kernel_rfl) (by as_aux_lemma => kernel_rfl) ?_
              refine RW.load (κ := .seq) (d := some 77) (r := (sq 1 2)) (T := 32) (b := b52) (o' := 0) (k := 0) (v := .agg #[.int .u64 D33.client, .int .u64 D33.seq, .string D33.key, .slice a3q41 D33.heads.length k3q41, .slice a4q41 D33.chunks.length k4q41, .slice a5q41 D33.nodes.length k5q41, .slice a6q41 D33.acks.length k6q41, .int .i64 D33.waited, .int .i64 D33.limit, .int .i64 D33.done]) (by as_aux_lemma => kernel_rfl) (H.cells 0 rfl) rfl (by as_aux_lemma => kernel_rfl) ?_
              refine RW.store (d := none) (r := (sq 2 2)) (T := 32) (b := b21) (k := 0) (v := .agg #[.int .u64 D33.client, .int .u64 D33.seq, .string D33.key, .slice a3q41 D33.heads.length k3q41, .slice a4q41 D33.chunks.length k4q41, .slice a5q41 D33.nodes.length k5q41, .slice a6q41 D33.acks.length k6q41, .int .i64 D33.waited, .int .i64 D33.limit, .int .i64 D33.done]) (c' := #[.int .u64 D33.client, .int .u64 D33.seq, .string D33.key, .slice a3q41 D33.heads.length k3q41, .slice a4q41 D33.chunks.length k4q41, .slice a5q41 D33.nodes.length k5q41, .slice a6q41 D33.acks.length k6q41, .int .i64 D33.waited, .int .i64 D33.limit, .int .i64 D33.done]) (M' := [(b52, .cells #[.int .u64 D33.client, .int .u64 D33.seq, .string D33.key, .slice a3q41 D33.heads.length k3q41, .slice a4q41 D33.chunks.length k4q41, .slice a5q41 D33.nodes.length k5q41, .slice a6q41 D33.acks.length k6q41, .int .i64 D33.waited, .int .i64 D33.limit, .int .i64 D33.done] 32 (0, 0)), (b21, .cells #[.int .u64 D33.client, .int .u64 D33.seq, .string D33.key, .slice a3q41 D33.heads.length k3q41, .slice a4q41 D33.chunks.length k4q41, .slice a5q41 D33.nodes.length k5q41, .slice a6q41 D33.acks.length k6q41, .int .i64 D33.waited, .int .i64 D33.limit, .int .i64 D33.done] 32 (0, 0))]) (by as_aux_lemma => kernel_rfl) H 1 rfl (by as_aux_lemma => kernel_rfl) (by as_aux_lemma => kernel_rfl) ?_
              intro w59 H
              refine RW.fin 0 [1, 5, 8] [(1, .int .i64 limit), (5, .pointer (some ⟨b21, 0, none⟩)), (8, .int .i64 (i : Int))] (by as_aux_lemma => kernel_rfl) ?_
              refine WK.run 1 [1, 5, 8] [.code (cd Try.prog 5 [4, 0, 1, 0, 0, 2]), .inLoop (cd Try.prog 5 [4, 0, 1, 0, 0]), .inBlock 0, .code (cd Try.prog 5 [5])] [(1, .int .i64 limit), (5, .pointer (some ⟨b21, 0, none⟩)), (8, .int .i64 (i : Int))] (by as_aux_lemma => kernel_rfl) ?_
              refine WK.reg1 (l := sq 0 3) (by as_aux_lemma => kernel_rfl) (by as_aux_lemma => kernel_rfl) ?_
              refine RW.runP 1 [1, 5, 8, 48] (sq 1 3) [(1, .int .i64 limit), (5, .pointer (some ⟨b21, 0, none⟩)), (8, .int .i64 (i : Int)), (48, .int .i64 (i : Int))] (by as_aux_lemma => kernel_rfl) (by as_aux_lemma => kernel_rfl) ?_
              refine RW.wr64 (κ := .seq) (d := some 49) (r := (sq 2 3)) (t := (i : Int) + 1) (by as_aux_lemma => kernel_rfl) (by omega) ?_
              refine RW.fin 1 [1, 5, 8] [(1, .int .i64 limit), (5, .pointer (some ⟨b21, 0, none⟩)), (8, .int .i64 ((i : Int) + 1))] (by as_aux_lemma => kernel_rfl) ?_
              have H := H.pick [4, 3, 2, 1] (G' := [Rp (Shape.slice hdrS) [.slice a3q41 D33.heads.length k3q41] D33.heads, Rp (Shape.slice (Shape.slice (Shape.bv .u8 8))) [.slice a4q41 D33.chunks.length k4q41] D33.chunks, Rp (Shape.slice (Shape.int .i64)) [.slice a5q41 D33.nodes.length k5q41] D33.nodes, Rp (Shape.slice (Shape.int .i64)) [.slice a6q41 D33.acks.length k6q41] D33.acks]) rfl
              have H := H.perms (M' := [(b21, .cells #[.int .u64 D33.client, .int .u64 D33.seq, .string D33.key, .slice a3q41 D33.heads.length k3q41, .slice a4q41 D33.chunks.length k4q41, .slice a5q41 D33.nodes.length k5q41, .slice a6q41 D33.acks.length k6q41, .int .i64 D33.waited, .int .i64 D33.limit, .int .i64 D33.done] 32 (0, 0)), (b52, .cells #[.int .u64 D33.client, .int .u64 D33.seq, .string D33.key, .slice a3q41 D33.heads.length k3q41, .slice a4q41 D33.chunks.length k4q41, .slice a5q41 D33.nodes.length k5q41, .slice a6q41 D33.acks.length k6q41, .int .i64 D33.waited, .int .i64 D33.limit, .int .i64 D33.done] 32 (0, 0))]) (W' := []) (List.perm_middle (l₁ := ([(b52, .cells #[.int .u64 D33.client, .int .u64 D33.seq, .string D33.key, .slice a3q41 D33.heads.length k3q41, .slice a4q41 D33.chunks.length k4q41, .slice a5q41 D33.nodes.length k5q41, .slice a6q41 D33.acks.length k6q41, .int .i64 D33.waited, .int .i64 D33.limit, .int .i64 D33.done] 32 (0, 0))] : Heap))).symm (List.Perm.refl _)
              have H := H.drop (M' := [(b21, .cells #[.int .u64 D33.client, .int .u64 D33.seq, .string D33.key, .slice a3q41 D33.heads.length k3q41, .slice a4q41 D33.chunks.length k4q41, .slice a5q41 D33.nodes.length k5q41, .slice a6q41 D33.acks.length k6q41, .int .i64 D33.waited, .int .i64 D33.limit, .int .i64 D33.done] 32 (0, 0))]) (W' := []) (by repeat (first | exact List.Sublist.refl _ | apply List.Sublist.cons_cons | apply List.Sublist.cons)) (by repeat (first | exact List.Sublist.refl _ | apply List.Sublist.cons_cons | apply List.Sublist.cons))
              exact WK.back (hback27 (i + 1, D33, a3q41, k3q41, a4q41, k4q41, a5q41, k5q41, a6q41, k6q41) _ ⟨H, by omega, by omega, by rw [hT1]; congr 1; omega⟩ (by simp only []; omega)) (by as_aux_lemma => kernel_rfl)
          · skip
            replace h57 := (bne_eq_false_iff_eq.1 h57)
            refine RW.fin 5 [1, 5, 8, 9, 76] [(1, .int .i64 limit), (5, .pointer (some ⟨b21, 0, none⟩)), (8, .int .i64 (i : Int)), (9, .pointer (some ⟨b52, 0, none⟩)), (76, .bool false)] (by as_aux_lemma => kernel_rfl) ?_
            refine WK.run 2 [1, 5, 8, 9] [.code (cd Try.prog 5 [4, 0, 1, 0, 0, 1, 0, 0, 2]), .inBlock 1, .code (cd Try.prog 5 [4, 0, 1, 0, 0, 2]), .inLoop (cd Try.prog 5 [4, 0, 1, 0, 0]), .inBlock 0, .code (cd Try.prog 5 [5])] [(1, .int .i64 limit), (5, .pointer (some ⟨b21, 0, none⟩)), (8, .int .i64 (i : Int)), (9, .pointer (some ⟨b52, 0, none⟩))] (by as_aux_lemma => kernel_rfl) ?_
            refine WK.reg1 (l := sq 0 2) (by as_aux_lemma => kernel_rfl) (by as_aux_lemma => kernel_rfl) ?_
            refine RW.load (κ := .seq) (d := some 77) (r := (sq 1 2)) (T := 32) (b := b52) (o' := 0) (k := 0) (v := .agg #[.int .u64 D33.client, .int .u64 D33.seq, .string D33.key, .slice a3q41 D33.heads.length k3q41, .slice a4q41 D33.chunks.length k4q41, .slice a5q41 D33.nodes.length k5q41, .slice a6q41 D33.acks.length k6q41, .int .i64 D33.waited, .int .i64 D33.limit, .int .i64 D33.done]) (by as_aux_lemma => kernel_rfl) (H.cells 0 rfl) rfl (by as_aux_lemma => kernel_rfl) ?_
            refine RW.store (d := none) (r := (sq 2 2)) (T := 32) (b := b21) (k := 0) (v := .agg #[.int .u64 D33.client, .int .u64 D33.seq, .string D33.key, .slice a3q41 D33.heads.length k3q41, .slice a4q41 D33.chunks.length k4q41, .slice a5q41 D33.nodes.length k5q41, .slice a6q41 D33.acks.length k6q41, .int .i64 D33.waited, .int .i64 D33.limit, .int .i64 D33.done]) (c' := #[.int .u64 D33.client, .int .u64 D33.seq, .string D33.key, .slice a3q41 D33.heads.length k3q41, .slice a4q41 D33.chunks.length k4q41, .slice a5q41 D33.nodes.length k5q41, .slice a6q41 D33.acks.length k6q41, .int .i64 D33.waited, .int .i64 D33.limit, .int .i64 D33.done]) (M' := [(b52, .cells #[.int .u64 D33.client, .int .u64 D33.seq, .string D33.key, .slice a3q41 D33.heads.length k3q41, .slice a4q41 D33.chunks.length k4q41, .slice a5q41 D33.nodes.length k5q41, .slice a6q41 D33.acks.length k6q41, .int .i64 D33.waited, .int .i64 D33.limit, .int .i64 D33.done] 32 (0, 0)), (b21, .cells #[.int .u64 D33.client, .int .u64 D33.seq, .string D33.key, .slice a3q41 D33.heads.length k3q41, .slice a4q41 D33.chunks.length k4q41, .slice a5q41 D33.nodes.length k5q41, .slice a6q41 D33.acks.length k6q41, .int .i64 D33.waited, .int .i64 D33.limit, .int .i64 D33.done] 32 (0, 0))]) (by as_aux_lemma => kernel_rfl) H 1 rfl (by as_aux_lemma => kernel_rfl) (by as_aux_lemma => kernel_rfl) ?_
            intro w60 H
            refine RW.fin 0 [1, 5, 8] [(1, .int .i64 limit), (5, .pointer (some ⟨b21, 0, none⟩)), (8, .int .i64 (i : Int))] (by as_aux_lemma => kernel_rfl) ?_
            refine WK.run 1 [1, 5, 8] [.code (cd Try.prog 5 [4, 0, 1, 0, 0, 2]), .inLoop (cd Try.prog 5 [4, 0, 1, 0, 0]), .inBlock 0, .code (cd Try.prog 5 [5])] [(1, .int .i64 limit), (5, .pointer (some ⟨b21, 0, none⟩)), (8, .int .i64 (i : Int))] (by as_aux_lemma => kernel_rfl) ?_
            refine WK.reg1 (l := sq 0 3) (by as_aux_lemma => kernel_rfl) (by as_aux_lemma => kernel_rfl) ?_
            refine RW.runP 1 [1, 5, 8, 48] (sq 1 3) [(1, .int .i64 limit), (5, .pointer (some ⟨b21, 0, none⟩)), (8, .int .i64 (i : Int)), (48, .int .i64 (i : Int))] (by as_aux_lemma => kernel_rfl) (by as_aux_lemma => kernel_rfl) ?_
            refine RW.wr64 (κ := .seq) (d := some 49) (r := (sq 2 3)) (t := (i : Int) + 1) (by as_aux_lemma => kernel_rfl) (by omega) ?_
            refine RW.fin 1 [1, 5, 8] [(1, .int .i64 limit), (5, .pointer (some ⟨b21, 0, none⟩)), (8, .int .i64 ((i : Int) + 1))] (by as_aux_lemma => kernel_rfl) ?_
            have H := H.pick [4, 3, 2, 1] (G' := [Rp (Shape.slice hdrS) [.slice a3q41 D33.heads.length k3q41] D33.heads, Rp (Shape.slice (Shape.slice (Shape.bv .u8 8))) [.slice a4q41 D33.chunks.length k4q41] D33.chunks, Rp (Shape.slice (Shape.int .i64)) [.slice a5q41 D33.nodes.length k5q41] D33.nodes, Rp (Shape.slice (Shape.int .i64)) [.slice a6q41 D33.acks.length k6q41] D33.acks]) rfl
            have H := H.perms (M' := [(b21, .cells #[.int .u64 D33.client, .int .u64 D33.seq, .string D33.key, .slice a3q41 D33.heads.length k3q41, .slice a4q41 D33.chunks.length k4q41, .slice a5q41 D33.nodes.length k5q41, .slice a6q41 D33.acks.length k6q41, .int .i64 D33.waited, .int .i64 D33.limit, .int .i64 D33.done] 32 (0, 0)), (b52, .cells #[.int .u64 D33.client, .int .u64 D33.seq, .string D33.key, .slice a3q41 D33.heads.length k3q41, .slice a4q41 D33.chunks.length k4q41, .slice a5q41 D33.nodes.length k5q41, .slice a6q41 D33.acks.length k6q41, .int .i64 D33.waited, .int .i64 D33.limit, .int .i64 D33.done] 32 (0, 0))]) (W' := []) (List.perm_middle (l₁ := ([(b52, .cells #[.int .u64 D33.client, .int .u64 D33.seq, .string D33.key, .slice a3q41 D33.heads.length k3q41, .slice a4q41 D33.chunks.length k4q41, .slice a5q41 D33.nodes.length k5q41, .slice a6q41 D33.acks.length k6q41, .int .i64 D33.waited, .int .i64 D33.limit, .int .i64 D33.done] 32 (0, 0))] : Heap))).symm (List.Perm.refl _)
            have H := H.drop (M' := [(b21, .cells #[.int .u64 D33.client, .int .u64 D33.seq, .string D33.key, .slice a3q41 D33.heads.length k3q41, .slice a4q41 D33.chunks.length k4q41, .slice a5q41 D33.nodes.length k5q41, .slice a6q41 D33.acks.length k6q41, .int .i64 D33.waited, .int .i64 D33.limit, .int .i64 D33.done] 32 (0, 0))]) (W' := []) (by repeat (first | exact List.Sublist.refl _ | apply List.Sublist.cons_cons | apply List.Sublist.cons)) (by repeat (first | exact List.Sublist.refl _ | apply List.Sublist.cons_cons | apply List.Sublist.cons))
            exact WK.back (hback27 (i + 1, D33, a3q41, k3q41, a4q41, k4q41, a5q41, k5q41, a6q41, k6q41) _ ⟨H, by omega, by omega, by rw [hT1]; congr 1; omega⟩ (by simp only []; omega)) (by as_aux_lemma => kernel_rfl)
    · skip
      replace h29 := of_decide_eq_false h29
      refine WK.run 2 [5] [.code (cd Try.prog 5 [5, 0]), .code (cd Try.prog 5 [6])] [(5, .pointer (some ⟨b21, 0, none⟩))] (by as_aux_lemma => kernel_rfl) ?_
      refine WK.reg1 (l := sq 0 10) (by as_aux_lemma => kernel_rfl) (by as_aux_lemma => kernel_rfl) ?_
      refine RW.load (κ := .seq) (d := some 79) (r := (sq 1 10)) (T := 32) (b := b21) (o' := 0) (k := 0) (v := .agg #[.int .u64 D.client, .int .u64 D.seq, .string D.key, .slice a3q D.heads.length k3q, .slice a4q D.chunks.length k4q, .slice a5q D.nodes.length k5q, .slice a6q D.acks.length k6q, .int .i64 D.waited, .int .i64 D.limit, .int .i64 D.done]) (by as_aux_lemma => kernel_rfl) (H.cells 0 rfl) rfl (by as_aux_lemma => kernel_rfl) ?_
      -- call
      refine RW.call (κ := .seq) (d := some 80) (r := (sq 2 10)) (g := 25) (args := #[.agg #[.int .u64 D.client, .int .u64 D.seq, .string D.key, .slice a3q D.heads.length k3q, .slice a4q D.chunks.length k4q, .slice a5q D.nodes.length k5q, .slice a6q D.acks.length k6q, .int .i64 D.waited, .int .i64 D.limit, .int .i64 D.done]]) (by as_aux_lemma => kernel_rfl) (nofun) (tick_spec (W := D) (wr_mk (l0 := [.int .u64 D.client]) (y0 := D.client) (l1 := [.int .u64 D.seq]) (y1 := D.seq) (l2 := [.string D.key]) (y2 := D.key) (l3 := [.slice a3q D.heads.length k3q]) (y3 := D.heads) (l4 := [.slice a4q D.chunks.length k4q]) (y4 := D.chunks) (l5 := [.slice a5q D.nodes.length k5q]) (y5 := D.nodes) (l6 := [.slice a6q D.acks.length k6q]) (y6 := D.acks) (l7 := [.int .i64 D.waited]) (y7 := D.waited) (l8 := [.int .i64 D.limit]) (y8 := D.limit) (l9 := [.int .i64 D.done]) (y9 := D.done) (Shape.u64_in (by first | omega | (simp <;> omega)) (by first | omega | (simp <;> omega))) (Shape.u64_in (by first | omega | (simp <;> omega)) (by first | omega | (simp <;> omega))) ⟨rfl, by first | assumption | (simp [maxLen]; done) | decide⟩ (H.rp 0 rfl) (H.rp 1 rfl) (H.rp 2 rfl) (H.rp 3 rfl) (Shape.i64_in (by first | omega | (simp <;> omega)) (by first | omega | (simp <;> omega))) (Shape.i64_in (by first | omega | (simp <;> omega)) (by first | omega | (simp <;> omega))) (Shape.i64_in (by first | omega | (simp <;> omega)) (by first | omega | (simp <;> omega)))) (by first | assumption | omega) (by first | assumption | omega) (by first | assumption | simpa using hcb)) ?_
      rintro _ w61 hE62 ⟨cs65, a67, c68, D64, D66, D69, rfl, hr70, hr71, hlaw63⟩
      have H0s := H
      obtain ⟨a3q72, k3q72, a4q72, k4q72, a5q72, k5q72, a6q72, k6q72, rfl, hf73, hf74, hf75, hf76, hf77, hf78, hf79, hf80, hf81, hf82⟩ := wr_open hr70
      have H := H.addN hE62 (F := Rp (Shape.slice hdrS) [.slice a3q72 D64.heads.length k3q72] D64.heads) hf76
      have H := H.add (F := Rp (Shape.slice (Shape.slice (Shape.bv .u8 8))) [.slice a4q72 D64.chunks.length k4q72] D64.chunks) ((H0s.addN hE62 (F := Rp (Shape.slice (Shape.slice (Shape.bv .u8 8))) [.slice a4q72 D64.chunks.length k4q72] D64.chunks) hf77).rp 0 rfl)
      have H := H.add (F := Rp (Shape.slice (Shape.int .i64)) [.slice a5q72 D64.nodes.length k5q72] D64.nodes) ((H0s.addN hE62 (F := Rp (Shape.slice (Shape.int .i64)) [.slice a5q72 D64.nodes.length k5q72] D64.nodes) hf78).rp 0 rfl)
      have H := H.add (F := Rp (Shape.slice (Shape.int .i64)) [.slice a6q72 D64.acks.length k6q72] D64.acks) ((H0s.addN hE62 (F := Rp (Shape.slice (Shape.int .i64)) [.slice a6q72 D64.acks.length k6q72] D64.acks) hf79).rp 0 rfl)
      have H := H.add (F := Rp (Shape.slice msgS) [.slice a67 D66.length c68] D66) ((H0s.addN hE62 (F := Rp (Shape.slice msgS) [.slice a67 D66.length c68] D66) hr71).rp 0 rfl)
      refine RW.runP 4 [81, 82, 83] (sq 6 10) [(81, .agg #[.int .u64 D64.client, .int .u64 D64.seq, .string D64.key, .slice a3q72 D64.heads.length k3q72, .slice a4q72 D64.chunks.length k4q72, .slice a5q72 D64.nodes.length k5q72, .slice a6q72 D64.acks.length k6q72, .int .i64 D64.waited, .int .i64 D64.limit, .int .i64 D64.done]), (82, .slice a67 D66.length c68), (83, .int .i64 D69)] (by as_aux_lemma => kernel_rfl) (by as_aux_lemma => kernel_rfl) ?_
      refine RW.new (κ := .seq) (d := some 12) (r := (sq 7 10)) (o := .cells #[.int .u64 0, .int .u64 0, .string (⟨#[]⟩), .slice none 0 0, .slice none 0 0, .slice none 0 0, .slice none 0 0, .int .i64 0, .int .i64 0, .int .i64 0] 32 (0, 0)) (v := fun b => .pointer (some ⟨b, 0, none⟩)) (fun b => by as_aux_lemma => kernel_rfl) (nofun) H ?_
      intro b83 w84 H
      refine RW.store (d := none) (r := (sq 8 10)) (T := 32) (b := b83) (k := 0) (v := .agg #[.int .u64 D64.client, .int .u64 D64.seq, .string D64.key, .slice a3q72 D64.heads.length k3q72, .slice a4q72 D64.chunks.length k4q72, .slice a5q72 D64.nodes.length k5q72, .slice a6q72 D64.acks.length k6q72, .int .i64 D64.waited, .int .i64 D64.limit, .int .i64 D64.done]) (c' := #[.int .u64 D64.client, .int .u64 D64.seq, .string D64.key, .slice a3q72 D64.heads.length k3q72, .slice a4q72 D64.chunks.length k4q72, .slice a5q72 D64.nodes.length k5q72, .slice a6q72 D64.acks.length k6q72, .int .i64 D64.waited, .int .i64 D64.limit, .int .i64 D64.done]) (M' := [(b83, .cells #[.int .u64 D64.client, .int .u64 D64.seq, .string D64.key, .slice a3q72 D64.heads.length k3q72, .slice a4q72 D64.chunks.length k4q72, .slice a5q72 D64.nodes.length k5q72, .slice a6q72 D64.acks.length k6q72, .int .i64 D64.waited, .int .i64 D64.limit, .int .i64 D64.done] 32 (0, 0)), (b21, .cells #[.int .u64 D.client, .int .u64 D.seq, .string D.key, .slice a3q D.heads.length k3q, .slice a4q D.chunks.length k4q, .slice a5q D.nodes.length k5q, .slice a6q D.acks.length k6q, .int .i64 D.waited, .int .i64 D.limit, .int .i64 D.done] 32 (0, 0))]) (by as_aux_lemma => kernel_rfl) H 0 rfl (by as_aux_lemma => kernel_rfl) (by as_aux_lemma => kernel_rfl) ?_
      intro w85 H
      refine RW.fin 2 [12, 13, 14] [(12, .pointer (some ⟨b83, 0, none⟩)), (13, .slice a67 D66.length c68), (14, .int .i64 D69)] (by as_aux_lemma => kernel_rfl) ?_
      refine WK.run 2 [12, 13, 14] [.code (cd Try.prog 5 [6, 0, 0]), .code (cd Try.prog 5 [6, 0, 1]), .code (cd Try.prog 5 [7])] [(12, .pointer (some ⟨b83, 0, none⟩)), (13, .slice a67 D66.length c68), (14, .int .i64 D69)] (by as_aux_lemma => kernel_rfl) ?_
      refine WK.reg1 (l := sq 0 4) (by as_aux_lemma => kernel_rfl) (by as_aux_lemma => kernel_rfl) ?_
      refine RW.runP 1 [12, 13, 14, 84] (sq 1 4) [(12, .pointer (some ⟨b83, 0, none⟩)), (13, .slice a67 D66.length c68), (14, .int .i64 D69), (84, .pointer (some ⟨b83, 3, none⟩))] (by as_aux_lemma => kernel_rfl) (by as_aux_lemma => kernel_rfl) ?_
      refine RW.load (κ := .seq) (d := some 85) (r := (sq 2 4)) (T := 28) (b := b83) (o' := 3) (k := 3) (v := .slice a3q72 D64.heads.length k3q72) (by as_aux_lemma => kernel_rfl) (H.cells 0 rfl) rfl (by as_aux_lemma => kernel_rfl) ?_
      refine RW.fin 2 [12, 13, 14, 87] [(12, .pointer (some ⟨b83, 0, none⟩)), (13, .slice a67 D66.length c68), (14, .int .i64 D69), (87, .bool (((D64.heads.length : Nat) : Int) != 2))] (by as_aux_lemma => kernel_rfl) ?_
      refine WK.cond1 (((D64.heads.length : Nat) : Int) != 2) (by as_aux_lemma => kernel_rfl) (by as_aux_lemma => kernel_rfl) (fun h86 => ?_) (fun h86 => ?_)
      · skip
        replace h86 := bne_iff_ne.1 h86
        have hT9 : (D64, D66, D69) = (({ Wt xs limit (limit + 1) with done := 2 } : Wr), ([] : List Msg), (2 : Int)) := hlaw63.trans (by rw [hinv0.2.2, show (i : Int) - 1 = limit by omega]; exact tick_last (by omega) (by omega))
        obtain ⟨hT1, hT2, hT3⟩ : D64 = ({ Wt xs limit (limit + 1) with done := 2 } : Wr) ∧ D66 = [] ∧ D69 = 2 := by simpa using hT9
        rw [hT1] at h86
        exact absurd (congrArg (fun q : Nat => (q : Int)) (Wt_heads (xs := xs) (limit := limit) (i := limit + 1))) h86
      · skip
        replace h86 := (bne_eq_false_iff_eq.1 h86)
        have hT9 : (D64, D66, D69) = (({ Wt xs limit (limit + 1) with done := 2 } : Wr), ([] : List Msg), (2 : Int)) := hlaw63.trans (by rw [hinv0.2.2, show (i : Int) - 1 = limit by omega]; exact tick_last (by omega) (by omega))
        obtain ⟨hT1, hT2, hT3⟩ : D64 = ({ Wt xs limit (limit + 1) with done := 2 } : Wr) ∧ D66 = [] ∧ D69 = 2 := by simpa using hT9
        refine WK.run 2 [12, 13, 14] [.code (cd Try.prog 5 [7, 0]), .code (cd Try.prog 5 [8])] [(12, .pointer (some ⟨b83, 0, none⟩)), (13, .slice a67 D66.length c68), (14, .int .i64 D69)] (by as_aux_lemma => kernel_rfl) ?_
        refine WK.drawH1 [] (.node [(0, .qui), (1, .qui), (2, .qui), (3, .qui), (4, .qui), (5, .qui)] (.cons 6 (.leaf [(7, .qui), (8, .qui), (9, .qui), (10, .seq), (11, .seq), (12, .qui)]) (.cons 10 (.leaf [(6, .seq), (7, .qui), (8, .qui), (9, .qui), (11, .seq), (12, .qui)]) .nil))) Try_mixed (by as_aux_lemma => kernel_rfl) (by as_aux_lemma => kernel_rfl) ?_
        intro w87 hw88
        have H := H.draw
        rw [← hw88] at H
        clear hw88
        have hS := Chg.refl w87 []
        refine RG.node' [(0, .qui), (1, .qui), (2, .qui), (3, .qui), (4, .qui), (5, .qui)] (by as_aux_lemma => kernel_rfl) ?_
        refine RH.load (d := some 89) (r := [(1, .qui), (2, .qui), (3, .qui), (4, .qui), (5, .qui)]) (T := 32) (b := b83) (o' := 0) (k := 0) (v := .agg #[.int .u64 D64.client, .int .u64 D64.seq, .string D64.key, .slice a3q72 D64.heads.length k3q72, .slice a4q72 D64.chunks.length k4q72, .slice a5q72 D64.nodes.length k5q72, .slice a6q72 D64.acks.length k6q72, .int .i64 D64.waited, .int .i64 D64.limit, .int .i64 D64.done]) (by as_aux_lemma => kernel_rfl) hS (H.cells 0 rfl) (by simp) (by simp) rfl (by as_aux_lemma => kernel_rfl) ?_
        refine RH.runP hS 1 [13, 14, 89, 90] [(2, .qui), (3, .qui), (4, .qui), (5, .qui)] [(13, .slice a67 D66.length c68), (14, .int .i64 D69), (89, .agg #[.int .u64 D64.client, .int .u64 D64.seq, .string D64.key, .slice a3q72 D64.heads.length k3q72, .slice a4q72 D64.chunks.length k4q72, .slice a5q72 D64.nodes.length k5q72, .slice a6q72 D64.acks.length k6q72, .int .i64 D64.waited, .int .i64 D64.limit, .int .i64 D64.done]), (90, .pointer (some ⟨b83, 3, none⟩))] (by as_aux_lemma => kernel_rfl) (by as_aux_lemma => kernel_rfl) ?_
        refine RH.load (d := some 91) (r := [(3, .qui), (4, .qui), (5, .qui)]) (T := 28) (b := b83) (o' := 3) (k := 3) (v := .slice a3q72 D64.heads.length k3q72) (by as_aux_lemma => kernel_rfl) hS (H.cells 0 rfl) (by simp) (by simp) rfl (by as_aux_lemma => kernel_rfl) ?_
        have hx89 : 0 < D64.heads.length := by omega
        refine RH.index (d := some 92) (r := [(4, .qui), (5, .qui)]) (T := 28) (e := 53) (ik := .i64) (ix := 0) (sh := hdrS) (x := D64.heads[0]) (by as_aux_lemma => kernel_rfl) hS (by as_aux_lemma => kernel_rfl) H 4 rfl 0 (by omega) (List.getElem?_eq_getElem hx89) ?_
        intro b90 o91 es92 hr93 H
        obtain ⟨cs0q94, rfl, hf95, hf96, hf97, hf98⟩ := hdr_open hr93
        obtain ⟨rfl, hf100, hf101, hf102⟩ := cid_open hf95
        refine RH.load (d := some 93) (r := [(5, .qui)]) (T := 53) (b := b90) (o' := o91) (k := 0) (v := .agg #[.int .u64 (((D64.heads[0]).id).version), .int .i64 (((D64.heads[0]).id).index), .int .u64 (((D64.heads[0]).id).epoch), .int .i64 ((D64.heads[0]).kk), .int .i64 ((D64.heads[0]).nn), .int .i64 ((D64.heads[0]).size), .int .u32 ((((D64.heads[0]).sum).toNat : Nat) : Int)]) (by as_aux_lemma => kernel_rfl) hS (H.fc 0 rfl) (by simp) (by simp) rfl (by as_aux_lemma => kernel_rfl) ?_
        refine RH.finB hS 1 [13, 14, 89, 94] [(13, .slice a67 D66.length c68), (14, .int .i64 D69), (89, .agg #[.int .u64 D64.client, .int .u64 D64.seq, .string D64.key, .slice a3q72 D64.heads.length k3q72, .slice a4q72 D64.chunks.length k4q72, .slice a5q72 D64.nodes.length k5q72, .slice a6q72 D64.acks.length k6q72, .int .i64 D64.waited, .int .i64 D64.limit, .int .i64 D64.done]), (94, .agg #[.int .i64 10, .int .i64 4, .int .i64 0, .int .u64 0, .int .u64 0, .int .u64 0, .int .u64 0, .int .u64 0, .bool true, .bool false, .slice none 0 0, .slice none 0 0, .slice none 0 0, .int .u64 (((D64.heads[0]).id).version), .int .i64 (((D64.heads[0]).id).index), .int .u64 (((D64.heads[0]).id).epoch), .int .i64 ((D64.heads[0]).kk), .int .i64 ((D64.heads[0]).nn), .int .i64 ((D64.heads[0]).size), .int .u32 ((((D64.heads[0]).sum).toNat : Nat) : Int), .slice none 0 0, .int .u64 0, .int .u64 0, .int .i64 0, .string (⟨#[]⟩), .int .i64 0, .slice none 0 0])] (by as_aux_lemma => kernel_rfl) ?_
        refine (RGB.cons' ?_ (RGB.cons' ?_ RGB.nil'))
        · skip
          refine RG.leaf' [(6, .seq), (7, .qui), (8, .qui), (9, .qui), (10, .seq), (11, .seq), (12, .qui)] (by as_aux_lemma => kernel_rfl) ?_
          have Hr := H
          refine RH.chn hS ?_
          -- call
          refine RW.call (κ := .chn) (d := some 95) (r := []) (g := 23) (args := #[.agg #[.int .u64 D64.client, .int .u64 D64.seq, .string D64.key, .slice a3q72 D64.heads.length k3q72, .slice a4q72 D64.chunks.length k4q72, .slice a5q72 D64.nodes.length k5q72, .slice a6q72 D64.acks.length k6q72, .int .i64 D64.waited, .int .i64 D64.limit, .int .i64 D64.done], .agg #[.int .i64 10, .int .i64 4, .int .i64 0, .int .u64 0, .int .u64 0, .int .u64 0, .int .u64 0, .int .u64 0, .bool true, .bool false, .slice none 0 0, .slice none 0 0, .slice none 0 0, .int .u64 (((D64.heads[0]).id).version), .int .i64 (((D64.heads[0]).id).index), .int .u64 (((D64.heads[0]).id).epoch), .int .i64 ((D64.heads[0]).kk), .int .i64 ((D64.heads[0]).nn), .int .i64 ((D64.heads[0]).size), .int .u32 ((((D64.heads[0]).sum).toNat : Nat) : Int), .slice none 0 0, .int .u64 0, .int .u64 0, .int .i64 0, .string (⟨#[]⟩), .int .i64 0, .slice none 0 0]]) (by as_aux_lemma => kernel_rfl) (nofun) (got_spec (W := D64) (wr_mk (l0 := [.int .u64 D64.client]) (y0 := D64.client) (l1 := [.int .u64 D64.seq]) (y1 := D64.seq) (l2 := [.string D64.key]) (y2 := D64.key) (l3 := [.slice a3q72 D64.heads.length k3q72]) (y3 := D64.heads) (l4 := [.slice a4q72 D64.chunks.length k4q72]) (y4 := D64.chunks) (l5 := [.slice a5q72 D64.nodes.length k5q72]) (y5 := D64.nodes) (l6 := [.slice a6q72 D64.acks.length k6q72]) (y6 := D64.acks) (l7 := [.int .i64 D64.waited]) (y7 := D64.waited) (l8 := [.int .i64 D64.limit]) (y8 := D64.limit) (l9 := [.int .i64 D64.done]) (y9 := D64.done) (Shape.u64_in (by first | omega | (simp <;> omega)) (by first | omega | (simp <;> omega))) (Shape.u64_in (by first | omega | (simp <;> omega)) (by first | omega | (simp <;> omega))) ⟨rfl, by first | assumption | (simp [maxLen]; done) | decide⟩ (H.rp 5 rfl) (H.rp 4 rfl) (H.rp 3 rfl) (H.rp 2 rfl) (Shape.i64_in (by first | omega | (simp <;> omega)) (by first | omega | (simp <;> omega))) (Shape.i64_in (by first | omega | (simp <;> omega)) (by first | omega | (simp <;> omega))) (Shape.i64_in (by first | omega | (simp <;> omega)) (by first | omega | (simp <;> omega)))) 10 4 (⟨((D64.heads[0]).id), (D64.heads[0]).kk, (D64.heads[0]).nn, (D64.heads[0]).size, (D64.heads[0]).sum⟩) true (.int .i64 0) (.int .u64 0) (.int .u64 0) (.int .u64 0) (.int .u64 0) (.int .u64 0) (.bool false) (.slice none 0 0) (.slice none 0 0) (.slice none 0 0) (.slice none 0 0) (.int .u64 0) (.int .u64 0) (.int .i64 0) (.string (⟨#[]⟩)) (.int .i64 0) (.slice none 0 0) (by first | assumption | omega)) ?_
          rintro _ w104 hE105 ⟨cs108, D107, D109, rfl, hr110, hlaw106⟩
          have H0s := H
          obtain ⟨a3q111, k3q111, a4q111, k4q111, a5q111, k5q111, a6q111, k6q111, rfl, hf112, hf113, hf114, hf115, hf116, hf117, hf118, hf119, hf120, hf121⟩ := wr_open hr110
          have H := H.addN hE105 (F := Rp (Shape.slice hdrS) [.slice a3q111 D107.heads.length k3q111] D107.heads) hf115
          have H := H.add (F := Rp (Shape.slice (Shape.slice (Shape.bv .u8 8))) [.slice a4q111 D107.chunks.length k4q111] D107.chunks) ((H0s.addN hE105 (F := Rp (Shape.slice (Shape.slice (Shape.bv .u8 8))) [.slice a4q111 D107.chunks.length k4q111] D107.chunks) hf116).rp 0 rfl)
          have H := H.add (F := Rp (Shape.slice (Shape.int .i64)) [.slice a5q111 D107.nodes.length k5q111] D107.nodes) ((H0s.addN hE105 (F := Rp (Shape.slice (Shape.int .i64)) [.slice a5q111 D107.nodes.length k5q111] D107.nodes) hf117).rp 0 rfl)
          have H := H.add (F := Rp (Shape.slice (Shape.int .i64)) [.slice a6q111 D107.acks.length k6q111] D107.acks) ((H0s.addN hE105 (F := Rp (Shape.slice (Shape.int .i64)) [.slice a6q111 D107.acks.length k6q111] D107.acks) hf118).rp 0 rfl)
          have hkpD107 := gotOf_keep hlaw106
          have hlkD107 := congrArg List.length hkpD107.1
          intro hS
          refine RH.runP hS 3 [13, 14, 96, 97] [(10, .seq), (11, .seq), (12, .qui)] [(13, .slice a67 D66.length c68), (14, .int .i64 D69), (96, .agg #[.int .u64 D107.client, .int .u64 D107.seq, .string D107.key, .slice a3q111 D107.heads.length k3q111, .slice a4q111 D107.chunks.length k4q111, .slice a5q111 D107.nodes.length k5q111, .slice a6q111 D107.acks.length k6q111, .int .i64 D107.waited, .int .i64 D107.limit, .int .i64 D107.done]), (97, .int .i64 D109)] (by as_aux_lemma => kernel_rfl) (by as_aux_lemma => kernel_rfl) ?_
          refine RH.chn hS ?_
          refine RW.newC (κ := .chn) (d := some 15) (r := []) (o := .cells #[.int .u64 0, .int .u64 0, .string (⟨#[]⟩), .slice none 0 0, .slice none 0 0, .slice none 0 0, .slice none 0 0, .int .i64 0, .int .i64 0, .int .i64 0] 32 (0, 0)) (v := fun b => .pointer (some ⟨b, 0, none⟩)) (fun b => by as_aux_lemma => kernel_rfl) (nofun) H ?_
          intro b123 w124 hnw122 H
          have hnb125 := Nat.le_trans hS.size hnw122
          intro hS
          refine RH.sto ?_
          refine RW.storeC (d := none) (r := []) (T := 32) (b := b123) (k := 0) (v := .agg #[.int .u64 D107.client, .int .u64 D107.seq, .string D107.key, .slice a3q111 D107.heads.length k3q111, .slice a4q111 D107.chunks.length k4q111, .slice a5q111 D107.nodes.length k5q111, .slice a6q111 D107.acks.length k6q111, .int .i64 D107.waited, .int .i64 D107.limit, .int .i64 D107.done]) (c' := #[.int .u64 D107.client, .int .u64 D107.seq, .string D107.key, .slice a3q111 D107.heads.length k3q111, .slice a4q111 D107.chunks.length k4q111, .slice a5q111 D107.nodes.length k5q111, .slice a6q111 D107.acks.length k6q111, .int .i64 D107.waited, .int .i64 D107.limit, .int .i64 D107.done]) (M' := [(b123, .cells #[.int .u64 D107.client, .int .u64 D107.seq, .string D107.key, .slice a3q111 D107.heads.length k3q111, .slice a4q111 D107.chunks.length k4q111, .slice a5q111 D107.nodes.length k5q111, .slice a6q111 D107.acks.length k6q111, .int .i64 D107.waited, .int .i64 D107.limit, .int .i64 D107.done] 32 (0, 0)), (b83, .cells #[.int .u64 D64.client, .int .u64 D64.seq, .string D64.key, .slice a3q72 D64.heads.length k3q72, .slice a4q72 D64.chunks.length k4q72, .slice a5q72 D64.nodes.length k5q72, .slice a6q72 D64.acks.length k6q72, .int .i64 D64.waited, .int .i64 D64.limit, .int .i64 D64.done] 32 (0, 0)), (b21, .cells #[.int .u64 D.client, .int .u64 D.seq, .string D.key, .slice a3q D.heads.length k3q, .slice a4q D.chunks.length k4q, .slice a5q D.nodes.length k5q, .slice a6q D.acks.length k6q, .int .i64 D.waited, .int .i64 D.limit, .int .i64 D.done] 32 (0, 0))]) (by as_aux_lemma => kernel_rfl) H 0 rfl (by as_aux_lemma => kernel_rfl) (by as_aux_lemma => kernel_rfl) ?_
          intro w127 hch126 H
          have hS128 := hS.sto hch126 (.inl hnb125)
          refine ⟨hS128, ?_⟩
          have hS := hS128
          refine RH.fin hS 1 [13, 14, 15, 16] [(13, .slice a67 D66.length c68), (14, .int .i64 D69), (15, .pointer (some ⟨b123, 0, none⟩)), (16, .int .i64 D109)] (by as_aux_lemma => kernel_rfl) ?_
          refine WK.run 1 [13, 14, 15, 16] [.code (cd Try.prog 5 [8, 0]), .code (cd Try.prog 5 [9])] [(13, .slice a67 D66.length c68), (14, .int .i64 D69), (15, .pointer (some ⟨b123, 0, none⟩)), (16, .int .i64 D109)] (by as_aux_lemma => kernel_rfl) ?_
          refine WK.reg1 (l := sq 0 21) (by as_aux_lemma => kernel_rfl) (by as_aux_lemma => kernel_rfl) ?_
          refine RW.runP 3 [13, 15, 16, 100] (sq 3 21) [(13, .slice a67 D66.length c68), (15, .pointer (some ⟨b123, 0, none⟩)), (16, .int .i64 D109), (100, .bool (D69 == 2))] (by as_aux_lemma => kernel_rfl) (by as_aux_lemma => kernel_rfl) ?_
          refine RW.test (fun b_ => [(13, .slice a67 D66.length c68), (15, .pointer (some ⟨b123, 0, none⟩)), (16, .int .i64 D109), (100, .bool b_)]) (D69 == 2) (fun h129 => ?_) (fun h129 => ?_)
          · skip
            replace h129 := eq_of_beq h129
            refine RW.runP 5 [15, 16, 105] (sq 8 21) [(15, .pointer (some ⟨b123, 0, none⟩)), (16, .int .i64 D109), (105, .bool (((D66.length : Nat) : Int) == 0))] (by as_aux_lemma => kernel_rfl) (by as_aux_lemma => kernel_rfl) ?_
            refine RW.test (fun b_ => [(15, .pointer (some ⟨b123, 0, none⟩)), (16, .int .i64 D109), (105, .bool b_)]) (((D66.length : Nat) : Int) == 0) (fun h130 => ?_) (fun h130 => ?_)
            · skip
              replace h130 := eq_of_beq h130
              refine RW.runP 4 [15, 109] (sq 12 21) [(15, .pointer (some ⟨b123, 0, none⟩)), (109, .bool (D109 == 2))] (by as_aux_lemma => kernel_rfl) (by as_aux_lemma => kernel_rfl) ?_
              refine RW.test (fun b_ => [(15, .pointer (some ⟨b123, 0, none⟩)), (109, .bool b_)]) (D109 == 2) (fun h131 => ?_) (fun h131 => ?_)
              · skip
                replace h131 := eq_of_beq h131
                refine RW.load (κ := .seq) (d := some 110) (r := (sq 13 21)) (T := 32) (b := b123) (o' := 0) (k := 0) (v := .agg #[.int .u64 D107.client, .int .u64 D107.seq, .string D107.key, .slice a3q111 D107.heads.length k3q111, .slice a4q111 D107.chunks.length k4q111, .slice a5q111 D107.nodes.length k5q111, .slice a6q111 D107.acks.length k6q111, .int .i64 D107.waited, .int .i64 D107.limit, .int .i64 D107.done]) (by as_aux_lemma => kernel_rfl) (H.cells 0 rfl) rfl (by as_aux_lemma => kernel_rfl) ?_
                -- call
                refine RW.call (κ := .seq) (d := some 111) (r := (sq 14 21)) (g := 27) (args := #[.agg #[.int .u64 D107.client, .int .u64 D107.seq, .string D107.key, .slice a3q111 D107.heads.length k3q111, .slice a4q111 D107.chunks.length k4q111, .slice a5q111 D107.nodes.length k5q111, .slice a6q111 D107.acks.length k6q111, .int .i64 D107.waited, .int .i64 D107.limit, .int .i64 D107.done]]) (by as_aux_lemma => kernel_rfl) (nofun) (settle_spec (W := D107) (wr_mk (l0 := [.int .u64 D107.client]) (y0 := D107.client) (l1 := [.int .u64 D107.seq]) (y1 := D107.seq) (l2 := [.string D107.key]) (y2 := D107.key) (l3 := [.slice a3q111 D107.heads.length k3q111]) (y3 := D107.heads) (l4 := [.slice a4q111 D107.chunks.length k4q111]) (y4 := D107.chunks) (l5 := [.slice a5q111 D107.nodes.length k5q111]) (y5 := D107.nodes) (l6 := [.slice a6q111 D107.acks.length k6q111]) (y6 := D107.acks) (l7 := [.int .i64 D107.waited]) (y7 := D107.waited) (l8 := [.int .i64 D107.limit]) (y8 := D107.limit) (l9 := [.int .i64 D107.done]) (y9 := D107.done) (Shape.u64_in (by first | omega | (simp <;> omega)) (by first | omega | (simp <;> omega))) (Shape.u64_in (by first | omega | (simp <;> omega)) (by first | omega | (simp <;> omega))) ⟨rfl, by first | assumption | (simp [maxLen]; done) | decide⟩ (H.rp 3 rfl) (H.rp 2 rfl) (H.rp 1 rfl) (H.rp 0 rfl) (Shape.i64_in (by first | omega | (simp <;> omega)) (by first | omega | (simp <;> omega))) (Shape.i64_in (by first | omega | (simp <;> omega)) (by first | omega | (simp <;> omega))) (Shape.i64_in (by first | omega | (simp <;> omega)) (by first | omega | (simp <;> omega)))) (by first | assumption | omega)) ?_
                rintro _ w132 hE133 ⟨a136, c137, D135, rfl, hr138, hlaw134⟩
                have H0s := H
                have H := H.addN hE133 (F := Rp (Shape.slice msgS) [.slice a136 D135.length c137] D135) hr138
                refine RW.runP 4 [115] (sq 18 21) [(115, .bool (((D135.length : Nat) : Int) == 0))] (by as_aux_lemma => kernel_rfl) (by as_aux_lemma => kernel_rfl) ?_
                refine RW.test (fun b_ => [(115, .bool b_)]) (((D135.length : Nat) : Int) == 0) (fun h139 => ?_) (fun h139 => ?_)
                · skip
                  replace h139 := eq_of_beq h139
                  refine RW.call (κ := .seq) (d := some 116) (r := (sq 19 21)) (g := 22) (args := #[]) (by as_aux_lemma => kernel_rfl) (nofun) (heads_spec (S := fun _ => True)) ?_
                  rintro _ w140 hE141 rfl
                  have H := H.ext hE141
                  refine RW.fin 2 [4] [(4, .bool true)] (by as_aux_lemma => kernel_rfl) ?_
                  refine WK.ret (v := .bool true) Try.func5 (by as_aux_lemma => kernel_rfl) (by as_aux_lemma => kernel_rfl) ?_
                  exact ⟨_, rfl, H.done, rfl⟩
                · skip
                  replace h139 := ne_of_beq_false h139
                  have hG9 := hlaw106.trans (got_given (by rw [hT1]))
                  have hG7 : D107 = _ := congrArg Prod.fst hG9
                  simp only [] at hG7
                  have hG8 := hlaw134.trans (settle_given (by rw [hG7, hT1]))
                  rw [hG8] at h139
                  exact absurd rfl h139
              · skip
                replace h131 := ne_of_beq_false h131
                have hG9 := hlaw106.trans (got_given (by rw [hT1]))
                exact absurd (congrArg Prod.snd hG9) h131
            · skip
              replace h130 := ne_of_beq_false h130
              rw [hT2] at h130
              exact absurd rfl h130
          · skip
            replace h129 := ne_of_beq_false h129
            exact absurd hT3 h129
        · skip
          refine RG.leaf' [(10, .seq), (6, .seq), (7, .qui), (8, .qui), (9, .qui), (11, .seq), (12, .qui)] (by as_aux_lemma => kernel_rfl) ?_
          have Hr := H
          refine RH.chn hS ?_
          refine RW.newC (κ := .chn) (d := some 15) (r := []) (o := .cells #[.int .u64 0, .int .u64 0, .string (⟨#[]⟩), .slice none 0 0, .slice none 0 0, .slice none 0 0, .slice none 0 0, .int .i64 0, .int .i64 0, .int .i64 0] 32 (0, 0)) (v := fun b => .pointer (some ⟨b, 0, none⟩)) (fun b => by as_aux_lemma => kernel_rfl) (nofun) H ?_
          intro b143 w144 hnw142 H
          have hnb145 := Nat.le_trans hS.size hnw142
          intro hS
          refine RH.chn hS ?_
          -- call
          refine RW.call (κ := .chn) (d := some 95) (r := []) (g := 23) (args := #[.agg #[.int .u64 D64.client, .int .u64 D64.seq, .string D64.key, .slice a3q72 D64.heads.length k3q72, .slice a4q72 D64.chunks.length k4q72, .slice a5q72 D64.nodes.length k5q72, .slice a6q72 D64.acks.length k6q72, .int .i64 D64.waited, .int .i64 D64.limit, .int .i64 D64.done], .agg #[.int .i64 10, .int .i64 4, .int .i64 0, .int .u64 0, .int .u64 0, .int .u64 0, .int .u64 0, .int .u64 0, .bool true, .bool false, .slice none 0 0, .slice none 0 0, .slice none 0 0, .int .u64 (((D64.heads[0]).id).version), .int .i64 (((D64.heads[0]).id).index), .int .u64 (((D64.heads[0]).id).epoch), .int .i64 ((D64.heads[0]).kk), .int .i64 ((D64.heads[0]).nn), .int .i64 ((D64.heads[0]).size), .int .u32 ((((D64.heads[0]).sum).toNat : Nat) : Int), .slice none 0 0, .int .u64 0, .int .u64 0, .int .i64 0, .string (⟨#[]⟩), .int .i64 0, .slice none 0 0]]) (by as_aux_lemma => kernel_rfl) (nofun) (got_spec (W := D64) (wr_mk (l0 := [.int .u64 D64.client]) (y0 := D64.client) (l1 := [.int .u64 D64.seq]) (y1 := D64.seq) (l2 := [.string D64.key]) (y2 := D64.key) (l3 := [.slice a3q72 D64.heads.length k3q72]) (y3 := D64.heads) (l4 := [.slice a4q72 D64.chunks.length k4q72]) (y4 := D64.chunks) (l5 := [.slice a5q72 D64.nodes.length k5q72]) (y5 := D64.nodes) (l6 := [.slice a6q72 D64.acks.length k6q72]) (y6 := D64.acks) (l7 := [.int .i64 D64.waited]) (y7 := D64.waited) (l8 := [.int .i64 D64.limit]) (y8 := D64.limit) (l9 := [.int .i64 D64.done]) (y9 := D64.done) (Shape.u64_in (by first | omega | (simp <;> omega)) (by first | omega | (simp <;> omega))) (Shape.u64_in (by first | omega | (simp <;> omega)) (by first | omega | (simp <;> omega))) ⟨rfl, by first | assumption | (simp [maxLen]; done) | decide⟩ (H.rp 5 rfl) (H.rp 4 rfl) (H.rp 3 rfl) (H.rp 2 rfl) (Shape.i64_in (by first | omega | (simp <;> omega)) (by first | omega | (simp <;> omega))) (Shape.i64_in (by first | omega | (simp <;> omega)) (by first | omega | (simp <;> omega))) (Shape.i64_in (by first | omega | (simp <;> omega)) (by first | omega | (simp <;> omega)))) 10 4 (⟨((D64.heads[0]).id), (D64.heads[0]).kk, (D64.heads[0]).nn, (D64.heads[0]).size, (D64.heads[0]).sum⟩) true (.int .i64 0) (.int .u64 0) (.int .u64 0) (.int .u64 0) (.int .u64 0) (.int .u64 0) (.bool false) (.slice none 0 0) (.slice none 0 0) (.slice none 0 0) (.slice none 0 0) (.int .u64 0) (.int .u64 0) (.int .i64 0) (.string (⟨#[]⟩)) (.int .i64 0) (.slice none 0 0) (by first | assumption | omega)) ?_
          rintro _ w147 hE148 ⟨cs151, D150, D152, rfl, hr153, hlaw149⟩
          have H0s := H
          obtain ⟨a3q154, k3q154, a4q154, k4q154, a5q154, k5q154, a6q154, k6q154, rfl, hf155, hf156, hf157, hf158, hf159, hf160, hf161, hf162, hf163, hf164⟩ := wr_open hr153
          have H := H.addN hE148 (F := Rp (Shape.slice hdrS) [.slice a3q154 D150.heads.length k3q154] D150.heads) hf158
          have H := H.add (F := Rp (Shape.slice (Shape.slice (Shape.bv .u8 8))) [.slice a4q154 D150.chunks.length k4q154] D150.chunks) ((H0s.addN hE148 (F := Rp (Shape.slice (Shape.slice (Shape.bv .u8 8))) [.slice a4q154 D150.chunks.length k4q154] D150.chunks) hf159).rp 0 rfl)
          have H := H.add (F := Rp (Shape.slice (Shape.int .i64)) [.slice a5q154 D150.nodes.length k5q154] D150.nodes) ((H0s.addN hE148 (F := Rp (Shape.slice (Shape.int .i64)) [.slice a5q154 D150.nodes.length k5q154] D150.nodes) hf160).rp 0 rfl)
          have H := H.add (F := Rp (Shape.slice (Shape.int .i64)) [.slice a6q154 D150.acks.length k6q154] D150.acks) ((H0s.addN hE148 (F := Rp (Shape.slice (Shape.int .i64)) [.slice a6q154 D150.acks.length k6q154] D150.acks) hf161).rp 0 rfl)
          have hkpD150 := gotOf_keep hlaw149
          have hlkD150 := congrArg List.length hkpD150.1
          intro hS
          refine RH.runP hS 3 [13, 14, 15, 96, 97] [(11, .seq), (12, .qui)] [(13, .slice a67 D66.length c68), (14, .int .i64 D69), (15, .pointer (some ⟨b143, 0, none⟩)), (96, .agg #[.int .u64 D150.client, .int .u64 D150.seq, .string D150.key, .slice a3q154 D150.heads.length k3q154, .slice a4q154 D150.chunks.length k4q154, .slice a5q154 D150.nodes.length k5q154, .slice a6q154 D150.acks.length k6q154, .int .i64 D150.waited, .int .i64 D150.limit, .int .i64 D150.done]), (97, .int .i64 D152)] (by as_aux_lemma => kernel_rfl) (by as_aux_lemma => kernel_rfl) ?_
          refine RH.sto ?_
          refine RW.storeC (d := none) (r := []) (T := 32) (b := b143) (k := 0) (v := .agg #[.int .u64 D150.client, .int .u64 D150.seq, .string D150.key, .slice a3q154 D150.heads.length k3q154, .slice a4q154 D150.chunks.length k4q154, .slice a5q154 D150.nodes.length k5q154, .slice a6q154 D150.acks.length k6q154, .int .i64 D150.waited, .int .i64 D150.limit, .int .i64 D150.done]) (c' := #[.int .u64 D150.client, .int .u64 D150.seq, .string D150.key, .slice a3q154 D150.heads.length k3q154, .slice a4q154 D150.chunks.length k4q154, .slice a5q154 D150.nodes.length k5q154, .slice a6q154 D150.acks.length k6q154, .int .i64 D150.waited, .int .i64 D150.limit, .int .i64 D150.done]) (M' := [(b143, .cells #[.int .u64 D150.client, .int .u64 D150.seq, .string D150.key, .slice a3q154 D150.heads.length k3q154, .slice a4q154 D150.chunks.length k4q154, .slice a5q154 D150.nodes.length k5q154, .slice a6q154 D150.acks.length k6q154, .int .i64 D150.waited, .int .i64 D150.limit, .int .i64 D150.done] 32 (0, 0)), (b83, .cells #[.int .u64 D64.client, .int .u64 D64.seq, .string D64.key, .slice a3q72 D64.heads.length k3q72, .slice a4q72 D64.chunks.length k4q72, .slice a5q72 D64.nodes.length k5q72, .slice a6q72 D64.acks.length k6q72, .int .i64 D64.waited, .int .i64 D64.limit, .int .i64 D64.done] 32 (0, 0)), (b21, .cells #[.int .u64 D.client, .int .u64 D.seq, .string D.key, .slice a3q D.heads.length k3q, .slice a4q D.chunks.length k4q, .slice a5q D.nodes.length k5q, .slice a6q D.acks.length k6q, .int .i64 D.waited, .int .i64 D.limit, .int .i64 D.done] 32 (0, 0))]) (by as_aux_lemma => kernel_rfl) H 0 rfl (by as_aux_lemma => kernel_rfl) (by as_aux_lemma => kernel_rfl) ?_
          intro w166 hch165 H
          have hS167 := hS.sto hch165 (.inl hnb145)
          refine ⟨hS167, ?_⟩
          have hS := hS167
          refine RH.fin hS 1 [13, 14, 15, 16] [(13, .slice a67 D66.length c68), (14, .int .i64 D69), (15, .pointer (some ⟨b143, 0, none⟩)), (16, .int .i64 D152)] (by as_aux_lemma => kernel_rfl) ?_
          refine WK.run 1 [13, 14, 15, 16] [.code (cd Try.prog 5 [8, 0]), .code (cd Try.prog 5 [9])] [(13, .slice a67 D66.length c68), (14, .int .i64 D69), (15, .pointer (some ⟨b143, 0, none⟩)), (16, .int .i64 D152)] (by as_aux_lemma => kernel_rfl) ?_
          refine WK.reg1 (l := sq 0 21) (by as_aux_lemma => kernel_rfl) (by as_aux_lemma => kernel_rfl) ?_
          refine RW.runP 3 [13, 15, 16, 100] (sq 3 21) [(13, .slice a67 D66.length c68), (15, .pointer (some ⟨b143, 0, none⟩)), (16, .int .i64 D152), (100, .bool (D69 == 2))] (by as_aux_lemma => kernel_rfl) (by as_aux_lemma => kernel_rfl) ?_
          refine RW.test (fun b_ => [(13, .slice a67 D66.length c68), (15, .pointer (some ⟨b143, 0, none⟩)), (16, .int .i64 D152), (100, .bool b_)]) (D69 == 2) (fun h168 => ?_) (fun h168 => ?_)
          · skip
            replace h168 := eq_of_beq h168
            refine RW.runP 5 [15, 16, 105] (sq 8 21) [(15, .pointer (some ⟨b143, 0, none⟩)), (16, .int .i64 D152), (105, .bool (((D66.length : Nat) : Int) == 0))] (by as_aux_lemma => kernel_rfl) (by as_aux_lemma => kernel_rfl) ?_
            refine RW.test (fun b_ => [(15, .pointer (some ⟨b143, 0, none⟩)), (16, .int .i64 D152), (105, .bool b_)]) (((D66.length : Nat) : Int) == 0) (fun h169 => ?_) (fun h169 => ?_)
            · skip
              replace h169 := eq_of_beq h169
              refine RW.runP 4 [15, 109] (sq 12 21) [(15, .pointer (some ⟨b143, 0, none⟩)), (109, .bool (D152 == 2))] (by as_aux_lemma => kernel_rfl) (by as_aux_lemma => kernel_rfl) ?_
              refine RW.test (fun b_ => [(15, .pointer (some ⟨b143, 0, none⟩)), (109, .bool b_)]) (D152 == 2) (fun h170 => ?_) (fun h170 => ?_)
              · skip
                replace h170 := eq_of_beq h170
                refine RW.load (κ := .seq) (d := some 110) (r := (sq 13 21)) (T := 32) (b := b143) (o' := 0) (k := 0) (v := .agg #[.int .u64 D150.client, .int .u64 D150.seq, .string D150.key, .slice a3q154 D150.heads.length k3q154, .slice a4q154 D150.chunks.length k4q154, .slice a5q154 D150.nodes.length k5q154, .slice a6q154 D150.acks.length k6q154, .int .i64 D150.waited, .int .i64 D150.limit, .int .i64 D150.done]) (by as_aux_lemma => kernel_rfl) (H.cells 0 rfl) rfl (by as_aux_lemma => kernel_rfl) ?_
                -- call
                refine RW.call (κ := .seq) (d := some 111) (r := (sq 14 21)) (g := 27) (args := #[.agg #[.int .u64 D150.client, .int .u64 D150.seq, .string D150.key, .slice a3q154 D150.heads.length k3q154, .slice a4q154 D150.chunks.length k4q154, .slice a5q154 D150.nodes.length k5q154, .slice a6q154 D150.acks.length k6q154, .int .i64 D150.waited, .int .i64 D150.limit, .int .i64 D150.done]]) (by as_aux_lemma => kernel_rfl) (nofun) (settle_spec (W := D150) (wr_mk (l0 := [.int .u64 D150.client]) (y0 := D150.client) (l1 := [.int .u64 D150.seq]) (y1 := D150.seq) (l2 := [.string D150.key]) (y2 := D150.key) (l3 := [.slice a3q154 D150.heads.length k3q154]) (y3 := D150.heads) (l4 := [.slice a4q154 D150.chunks.length k4q154]) (y4 := D150.chunks) (l5 := [.slice a5q154 D150.nodes.length k5q154]) (y5 := D150.nodes) (l6 := [.slice a6q154 D150.acks.length k6q154]) (y6 := D150.acks) (l7 := [.int .i64 D150.waited]) (y7 := D150.waited) (l8 := [.int .i64 D150.limit]) (y8 := D150.limit) (l9 := [.int .i64 D150.done]) (y9 := D150.done) (Shape.u64_in (by first | omega | (simp <;> omega)) (by first | omega | (simp <;> omega))) (Shape.u64_in (by first | omega | (simp <;> omega)) (by first | omega | (simp <;> omega))) ⟨rfl, by first | assumption | (simp [maxLen]; done) | decide⟩ (H.rp 3 rfl) (H.rp 2 rfl) (H.rp 1 rfl) (H.rp 0 rfl) (Shape.i64_in (by first | omega | (simp <;> omega)) (by first | omega | (simp <;> omega))) (Shape.i64_in (by first | omega | (simp <;> omega)) (by first | omega | (simp <;> omega))) (Shape.i64_in (by first | omega | (simp <;> omega)) (by first | omega | (simp <;> omega)))) (by first | assumption | omega)) ?_
                rintro _ w171 hE172 ⟨a175, c176, D174, rfl, hr177, hlaw173⟩
                have H0s := H
                have H := H.addN hE172 (F := Rp (Shape.slice msgS) [.slice a175 D174.length c176] D174) hr177
                refine RW.runP 4 [115] (sq 18 21) [(115, .bool (((D174.length : Nat) : Int) == 0))] (by as_aux_lemma => kernel_rfl) (by as_aux_lemma => kernel_rfl) ?_
                refine RW.test (fun b_ => [(115, .bool b_)]) (((D174.length : Nat) : Int) == 0) (fun h178 => ?_) (fun h178 => ?_)
                · skip
                  replace h178 := eq_of_beq h178
                  refine RW.call (κ := .seq) (d := some 116) (r := (sq 19 21)) (g := 22) (args := #[]) (by as_aux_lemma => kernel_rfl) (nofun) (heads_spec (S := fun _ => True)) ?_
                  rintro _ w179 hE180 rfl
                  have H := H.ext hE180
                  refine RW.fin 2 [4] [(4, .bool true)] (by as_aux_lemma => kernel_rfl) ?_
                  refine WK.ret (v := .bool true) Try.func5 (by as_aux_lemma => kernel_rfl) (by as_aux_lemma => kernel_rfl) ?_
                  exact ⟨_, rfl, H.done, rfl⟩
                · skip
                  replace h178 := ne_of_beq_false h178
                  have hG9 := hlaw149.trans (got_given (by rw [hT1]))
                  have hG7 : D150 = _ := congrArg Prod.fst hG9
                  simp only [] at hG7
                  have hG8 := hlaw173.trans (settle_given (by rw [hG7, hT1]))
                  rw [hG8] at h178
                  exact absurd rfl h178
              · skip
                replace h170 := ne_of_beq_false h170
                have hG9 := hlaw149.trans (got_given (by rw [hT1]))
                exact absurd (congrArg Prod.snd hG9) h170
            · skip
              replace h169 := ne_of_beq_false h169
              rw [hT2] at h169
              exact absurd rfl h169
          · skip
            replace h168 := ne_of_beq_false h168
            exact absurd hT3 h168


end Go.Proofs.Ytppcdmbkgficiaa
