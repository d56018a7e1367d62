import Derived.Test.YtppcdmbkgficiaaT1
import Derived.Test.YtppcdmbkgficiaaBxSwap
namespace Go.Proofs.Ytppcdmbkgficiaa
open Go.BX

theorem rebL_of {xs : List (BitVec 8)} {ys : List Pc} {k n x : Nat} (h : Of xs k n ys) (h0 : 0 < k) (hk : k ≤ ys.length) (hkn : k ≤ n) (hn : n ≤ 255) (hx : x < n) : rebL ys k n xs.length x = rowAt (enc xs k n) x := by
  unfold rebL
  rw [datL_of h h0 hk hkn hn, enc_row hkn hx]
def pcs (xs : List (BitVec 8)) (k n : Nat) : List Pc := (List.range n).map fun (i : Nat) => (⟨(i : Int), rowAt (enc xs k n) i⟩ : Pc)
theorem pcs_len (xs : List (BitVec 8)) (k n : Nat) : (pcs xs k n).length = n := by simp [pcs]
theorem pcs_get {xs : List (BitVec 8)} {k n i : Nat} (h : i < n) (h2 : i < (enc xs k n).length) : (pcs xs k n)[i]? = some ⟨(i : Int), (enc xs k n)[i]⟩ := by
  unfold pcs
  rw [List.getElem?_map, List.getElem?_range h, Option.map_some, rowAt_eq h2]
theorem pcs_of {xs : List (BitVec 8)} {k n : Nat} : Of xs k n (pcs xs k n) where
  nd := by
    unfold pcs
    rw [List.map_map, List.Nodup, List.pairwise_map]
    exact List.nodup_range.imp fun h e => h (Int.ofNat.inj e)
  rng p hp := by
    obtain ⟨i, hi, rfl⟩ := List.mem_map.1 hp
    have := List.mem_range.1 hi
    show (0 : Int) ≤ (i : Int) ∧ (i : Int) < (n : Int)
    omega
  dat p hp := by
    obtain ⟨i, hi, rfl⟩ := List.mem_map.1 hp
    rfl
def pcAt (q : List Pc) (i : Nat) : Pc := (q[i]?).getD ⟨0, []⟩
theorem pcAt_eq {q : List Pc} {i : Nat} (h : i < q.length) : pcAt q i = q[i] := by
  unfold pcAt
  rw [List.getElem?_eq_getElem h]
  rfl
def swapP (q : List Pc) (i j : Nat) : List Pc := (q.set i (pcAt q j)).set j (pcAt q i)
theorem swapP_perm {q : List Pc} {i j : Nat} (hi : i < q.length) (hj : j < q.length) : (swapP q i j).Perm q := by
  unfold swapP
  rw [pcAt_eq hi, pcAt_eq hj]
  exact List.set_set_perm hi hj

theorem back_bad {S : Nat → Prop} {w : World} {xs : List (BitVec 8)} {zs : List Int} {a b : Option Addr} {c d : Nat} (h : (Shape.slice (Shape.bv .u8 8)).rep S w [.slice a xs.length c] xs) (h2 : (Shape.slice (Shape.int .i64)).rep S w [.slice b zs.length d] zs) (k n : Int) (hb : ¬ (1 ≤ k ∧ k ≤ n ∧ n ≤ 60 ∧ xs.length ≤ 4096)) :
    Calls Try.prog 8 #[.slice a xs.length c, .int .i64 k, .int .i64 n, .slice b zs.length d] w (Ret fun v w' => Ext w w' ∧ v = .bool true) := by
  refine WK.calls1 (fn := Try.f8) (n := 173) (σ := [(0, .slice a xs.length c), (1, .int .i64 k), (2, .int .i64 n), (3, .slice b zs.length d)]) Try.func8 rfl (by as_aux_lemma => kernel_rfl) (by as_aux_lemma => kernel_rfl) (by as_aux_lemma => kernel_rfl) ?_
  have H := Hp.startF (w := w) (S := S) (G := [Rp (Shape.slice (Shape.bv .u8 8)) [.slice a xs.length c] xs, Rp (Shape.slice (Shape.int .i64)) [.slice b zs.length d] zs]) (.rp h (.rp h2 .nil))
  refine WK.run 4 [0, 1, 2, 3] [.code (cd Try.prog 8 [1, 0, 0]), .code (cd Try.prog 8 [1, 0, 1]), .code (cd Try.prog 8 [2])] [(0, .slice a xs.length c), (1, .int .i64 k), (2, .int .i64 n), (3, .slice b zs.length d)] (by as_aux_lemma => kernel_rfl) ?_
  refine WK.reg1 (l := sq 0 16) (by as_aux_lemma => kernel_rfl) (by as_aux_lemma => kernel_rfl) ?_
  refine RW.runP 3 [0, 1, 2, 3, 24] (sq 3 16) [(0, .slice a xs.length c), (1, .int .i64 k), (2, .int .i64 n), (3, .slice b zs.length d), (24, .bool (decide ((k : Int) < 1)))] (by as_aux_lemma => kernel_rfl) (by as_aux_lemma => kernel_rfl) ?_
  refine RW.test (fun b_ => [(0, .slice a xs.length c), (1, .int .i64 k), (2, .int .i64 n), (3, .slice b zs.length d), (24, .bool b_)]) (decide ((k : Int) < 1)) (fun h1 => ?_) (fun h1 => ?_)
  · skip
    replace h1 := of_decide_eq_true h1
    refine RW.fin 13 [0, 1, 2, 3, 37] [(0, .slice a xs.length c), (1, .int .i64 k), (2, .int .i64 n), (3, .slice b zs.length d), (37, .bool true)] (by as_aux_lemma => kernel_rfl) ?_
    refine WK.run 2 [] [.code (cd Try.prog 8 [1, 0, 1, 0, 0]), .code (cd Try.prog 8 [1, 0, 1, 0, 1]), .code (cd Try.prog 8 [2])] [] (by as_aux_lemma => kernel_rfl) ?_
    refine WK.reg1 (l := sq 0 2) (by as_aux_lemma => kernel_rfl) (by as_aux_lemma => kernel_rfl) ?_
    refine RW.call (κ := .seq) (d := some 38) (r := (sq 1 2)) (g := 28) (args := #[]) (by as_aux_lemma => kernel_rfl) (nofun) (heads_spec (S := fun _ => True)) ?_
    rintro _ w2 hE3 rfl
    have H := H.ext hE3
    refine RW.fin 1 [8] [(8, .bool true)] (by as_aux_lemma => kernel_rfl) ?_
    refine WK.ret (v := .bool true) Try.func8 (by as_aux_lemma => kernel_rfl) (by as_aux_lemma => kernel_rfl) ?_
    exact ⟨_, rfl, H.done, rfl⟩
  · skip
    replace h1 := of_decide_eq_false h1
    refine RW.runP 5 [0, 1, 2, 3, 29] (sq 8 16) [(0, .slice a xs.length c), (1, .int .i64 k), (2, .int .i64 n), (3, .slice b zs.length d), (29, .bool (decide ((k : Int) > n)))] (by as_aux_lemma => kernel_rfl) (by as_aux_lemma => kernel_rfl) ?_
    refine RW.test (fun b_ => [(0, .slice a xs.length c), (1, .int .i64 k), (2, .int .i64 n), (3, .slice b zs.length d), (29, .bool b_)]) (decide ((k : Int) > n)) (fun h4 => ?_) (fun h4 => ?_)
    · skip
      replace h4 := of_decide_eq_true h4
      refine RW.fin 8 [0, 1, 2, 3, 37] [(0, .slice a xs.length c), (1, .int .i64 k), (2, .int .i64 n), (3, .slice b zs.length d), (37, .bool true)] (by as_aux_lemma => kernel_rfl) ?_
      refine WK.run 2 [] [.code (cd Try.prog 8 [1, 0, 1, 0, 0]), .code (cd Try.prog 8 [1, 0, 1, 0, 1]), .code (cd Try.prog 8 [2])] [] (by as_aux_lemma => kernel_rfl) ?_
      refine WK.reg1 (l := sq 0 2) (by as_aux_lemma => kernel_rfl) (by as_aux_lemma => kernel_rfl) ?_
      refine RW.call (κ := .seq) (d := some 38) (r := (sq 1 2)) (g := 28) (args := #[]) (by as_aux_lemma => kernel_rfl) (nofun) (heads_spec (S := fun _ => True)) ?_
      rintro _ w5 hE6 rfl
      have H := H.ext hE6
      refine RW.fin 1 [8] [(8, .bool true)] (by as_aux_lemma => kernel_rfl) ?_
      refine WK.ret (v := .bool true) Try.func8 (by as_aux_lemma => kernel_rfl) (by as_aux_lemma => kernel_rfl) ?_
      exact ⟨_, rfl, H.done, rfl⟩
    · skip
      replace h4 := of_decide_eq_false h4
      refine RW.runP 4 [0, 1, 2, 3, 33] (sq 12 16) [(0, .slice a xs.length c), (1, .int .i64 k), (2, .int .i64 n), (3, .slice b zs.length d), (33, .bool (decide ((n : Int) > 60)))] (by as_aux_lemma => kernel_rfl) (by as_aux_lemma => kernel_rfl) ?_
      refine RW.test (fun b_ => [(0, .slice a xs.length c), (1, .int .i64 k), (2, .int .i64 n), (3, .slice b zs.length d), (33, .bool b_)]) (decide ((n : Int) > 60)) (fun h7 => ?_) (fun h7 => ?_)
      · skip
        replace h7 := of_decide_eq_true h7
        refine RW.fin 4 [0, 1, 2, 3, 37] [(0, .slice a xs.length c), (1, .int .i64 k), (2, .int .i64 n), (3, .slice b zs.length d), (37, .bool true)] (by as_aux_lemma => kernel_rfl) ?_
        refine WK.run 2 [] [.code (cd Try.prog 8 [1, 0, 1, 0, 0]), .code (cd Try.prog 8 [1, 0, 1, 0, 1]), .code (cd Try.prog 8 [2])] [] (by as_aux_lemma => kernel_rfl) ?_
        refine WK.reg1 (l := sq 0 2) (by as_aux_lemma => kernel_rfl) (by as_aux_lemma => kernel_rfl) ?_
        refine RW.call (κ := .seq) (d := some 38) (r := (sq 1 2)) (g := 28) (args := #[]) (by as_aux_lemma => kernel_rfl) (nofun) (heads_spec (S := fun _ => True)) ?_
        rintro _ w8 hE9 rfl
        have H := H.ext hE9
        refine RW.fin 1 [8] [(8, .bool true)] (by as_aux_lemma => kernel_rfl) ?_
        refine WK.ret (v := .bool true) Try.func8 (by as_aux_lemma => kernel_rfl) (by as_aux_lemma => kernel_rfl) ?_
        exact ⟨_, rfl, H.done, rfl⟩
      · skip
        replace h7 := of_decide_eq_false h7
        refine RW.fin 4 [0, 1, 2, 3, 37] [(0, .slice a xs.length c), (1, .int .i64 k), (2, .int .i64 n), (3, .slice b zs.length d), (37, .bool (decide ((((xs.length : Nat) : Int) : Int) > 4096)))] (by as_aux_lemma => kernel_rfl) ?_
        refine WK.cond1 (decide ((((xs.length : Nat) : Int) : Int) > 4096)) (by as_aux_lemma => kernel_rfl) (by as_aux_lemma => kernel_rfl) (fun h10 => ?_) (fun h10 => ?_)
        · skip
          replace h10 := of_decide_eq_true h10
          refine WK.run 1 [] [.code (cd Try.prog 8 [1, 0, 1, 0, 0]), .code (cd Try.prog 8 [1, 0, 1, 0, 1]), .code (cd Try.prog 8 [2])] [] (by as_aux_lemma => kernel_rfl) ?_
          refine WK.reg1 (l := sq 0 2) (by as_aux_lemma => kernel_rfl) (by as_aux_lemma => kernel_rfl) ?_
          refine RW.call (κ := .seq) (d := some 38) (r := (sq 1 2)) (g := 28) (args := #[]) (by as_aux_lemma => kernel_rfl) (nofun) (heads_spec (S := fun _ => True)) ?_
          rintro _ w11 hE12 rfl
          have H := H.ext hE12
          refine RW.fin 1 [8] [(8, .bool true)] (by as_aux_lemma => kernel_rfl) ?_
          refine WK.ret (v := .bool true) Try.func8 (by as_aux_lemma => kernel_rfl) (by as_aux_lemma => kernel_rfl) ?_
          exact ⟨_, rfl, H.done, rfl⟩
        · skip
          replace h10 := of_decide_eq_false h10
          exact absurd (by omega) hb

theorem back_ok {S : Nat → Prop} {w : World} {xs : List (BitVec 8)} {zs : List Int} {a b : Option Addr} {c d : Nat} (h : (Shape.slice (Shape.bv .u8 8)).rep S w [.slice a xs.length c] xs) (h2 : (Shape.slice (Shape.int .i64)).rep S w [.slice b zs.length d] zs) {k n : Nat} (hs : xs.length ≤ 4096) (hk : 1 ≤ k) (hkn : k ≤ n) (hn : n ≤ 60) :
    Calls Try.prog 8 #[.slice a xs.length c, .int .i64 (k : Int), .int .i64 (n : Int), .slice b zs.length d] w (Ret fun v w' => Ext w w' ∧ v = .bool true) := by
  have hzl := Shape.slice_len h2
  refine WK.calls1 (fn := Try.f8) (n := 173) (σ := [(0, .slice a xs.length c), (1, .int .i64 (k : Int)), (2, .int .i64 (n : Int)), (3, .slice b zs.length d)]) Try.func8 rfl (by as_aux_lemma => kernel_rfl) (by as_aux_lemma => kernel_rfl) (by as_aux_lemma => kernel_rfl) ?_
  have H := Hp.startF (w := w) (S := S) (G := [Rp (Shape.slice (Shape.bv .u8 8)) [.slice a xs.length c] xs, Rp (Shape.slice (Shape.int .i64)) [.slice b zs.length d] zs]) (.rp h (.rp h2 .nil))
  refine WK.run 4 [0, 1, 2, 3] [.code (cd Try.prog 8 [1, 0, 0]), .code (cd Try.prog 8 [1, 0, 1]), .code (cd Try.prog 8 [2])] [(0, .slice a xs.length c), (1, .int .i64 (k : Int)), (2, .int .i64 (n : Int)), (3, .slice b zs.length d)] (by as_aux_lemma => kernel_rfl) ?_
  refine WK.reg1 (l := sq 0 16) (by as_aux_lemma => kernel_rfl) (by as_aux_lemma => kernel_rfl) ?_
  refine RW.runP 3 [0, 1, 2, 3, 24] (sq 3 16) [(0, .slice a xs.length c), (1, .int .i64 (k : Int)), (2, .int .i64 (n : Int)), (3, .slice b zs.length d), (24, .bool (decide (((k : Int) : Int) < 1)))] (by as_aux_lemma => kernel_rfl) (by as_aux_lemma => kernel_rfl) ?_
  refine RW.test (fun b_ => [(0, .slice a xs.length c), (1, .int .i64 (k : Int)), (2, .int .i64 (n : Int)), (3, .slice b zs.length d), (24, .bool b_)]) (decide (((k : Int) : Int) < 1)) (fun h1 => ?_) (fun h1 => ?_)
  · skip
    replace h1 := of_decide_eq_true h1
    refine RW.fin 13 [0, 1, 2, 3, 37] [(0, .slice a xs.length c), (1, .int .i64 (k : Int)), (2, .int .i64 (n : Int)), (3, .slice b zs.length d), (37, .bool true)] (by as_aux_lemma => kernel_rfl) ?_
    refine WK.run 2 [] [.code (cd Try.prog 8 [1, 0, 1, 0, 0]), .code (cd Try.prog 8 [1, 0, 1, 0, 1]), .code (cd Try.prog 8 [2])] [] (by as_aux_lemma => kernel_rfl) ?_
    refine WK.reg1 (l := sq 0 2) (by as_aux_lemma => kernel_rfl) (by as_aux_lemma => kernel_rfl) ?_
    refine RW.call (κ := .seq) (d := some 38) (r := (sq 1 2)) (g := 28) (args := #[]) (by as_aux_lemma => kernel_rfl) (nofun) (heads_spec (S := fun _ => True)) ?_
    rintro _ w2 hE3 rfl
    have H := H.ext hE3
    refine RW.fin 1 [8] [(8, .bool true)] (by as_aux_lemma => kernel_rfl) ?_
    refine WK.ret (v := .bool true) Try.func8 (by as_aux_lemma => kernel_rfl) (by as_aux_lemma => kernel_rfl) ?_
    exact ⟨_, rfl, H.done, rfl⟩
  · skip
    replace h1 := of_decide_eq_false h1
    refine RW.runP 5 [0, 1, 2, 3, 29] (sq 8 16) [(0, .slice a xs.length c), (1, .int .i64 (k : Int)), (2, .int .i64 (n : Int)), (3, .slice b zs.length d), (29, .bool (decide (((k : Int) : Int) > (n : Int))))] (by as_aux_lemma => kernel_rfl) (by as_aux_lemma => kernel_rfl) ?_
    refine RW.test (fun b_ => [(0, .slice a xs.length c), (1, .int .i64 (k : Int)), (2, .int .i64 (n : Int)), (3, .slice b zs.length d), (29, .bool b_)]) (decide (((k : Int) : Int) > (n : Int))) (fun h4 => ?_) (fun h4 => ?_)
    · skip
      replace h4 := of_decide_eq_true h4
      refine RW.fin 8 [0, 1, 2, 3, 37] [(0, .slice a xs.length c), (1, .int .i64 (k : Int)), (2, .int .i64 (n : Int)), (3, .slice b zs.length d), (37, .bool true)] (by as_aux_lemma => kernel_rfl) ?_
      refine WK.run 2 [] [.code (cd Try.prog 8 [1, 0, 1, 0, 0]), .code (cd Try.prog 8 [1, 0, 1, 0, 1]), .code (cd Try.prog 8 [2])] [] (by as_aux_lemma => kernel_rfl) ?_
      refine WK.reg1 (l := sq 0 2) (by as_aux_lemma => kernel_rfl) (by as_aux_lemma => kernel_rfl) ?_
      refine RW.call (κ := .seq) (d := some 38) (r := (sq 1 2)) (g := 28) (args := #[]) (by as_aux_lemma => kernel_rfl) (nofun) (heads_spec (S := fun _ => True)) ?_
      rintro _ w5 hE6 rfl
      have H := H.ext hE6
      refine RW.fin 1 [8] [(8, .bool true)] (by as_aux_lemma => kernel_rfl) ?_
      refine WK.ret (v := .bool true) Try.func8 (by as_aux_lemma => kernel_rfl) (by as_aux_lemma => kernel_rfl) ?_
      exact ⟨_, rfl, H.done, rfl⟩
    · skip
      replace h4 := of_decide_eq_false h4
      refine RW.runP 4 [0, 1, 2, 3, 33] (sq 12 16) [(0, .slice a xs.length c), (1, .int .i64 (k : Int)), (2, .int .i64 (n : Int)), (3, .slice b zs.length d), (33, .bool (decide (((n : Int) : Int) > 60)))] (by as_aux_lemma => kernel_rfl) (by as_aux_lemma => kernel_rfl) ?_
      refine RW.test (fun b_ => [(0, .slice a xs.length c), (1, .int .i64 (k : Int)), (2, .int .i64 (n : Int)), (3, .slice b zs.length d), (33, .bool b_)]) (decide (((n : Int) : Int) > 60)) (fun h7 => ?_) (fun h7 => ?_)
      · skip
        replace h7 := of_decide_eq_true h7
        refine RW.fin 4 [0, 1, 2, 3, 37] [(0, .slice a xs.length c), (1, .int .i64 (k : Int)), (2, .int .i64 (n : Int)), (3, .slice b zs.length d), (37, .bool true)] (by as_aux_lemma => kernel_rfl) ?_
        refine WK.run 2 [] [.code (cd Try.prog 8 [1, 0, 1, 0, 0]), .code (cd Try.prog 8 [1, 0, 1, 0, 1]), .code (cd Try.prog 8 [2])] [] (by as_aux_lemma => kernel_rfl) ?_
        refine WK.reg1 (l := sq 0 2) (by as_aux_lemma => kernel_rfl) (by as_aux_lemma => kernel_rfl) ?_
        refine RW.call (κ := .seq) (d := some 38) (r := (sq 1 2)) (g := 28) (args := #[]) (by as_aux_lemma => kernel_rfl) (nofun) (heads_spec (S := fun _ => True)) ?_
        rintro _ w8 hE9 rfl
        have H := H.ext hE9
        refine RW.fin 1 [8] [(8, .bool true)] (by as_aux_lemma => kernel_rfl) ?_
        refine WK.ret (v := .bool true) Try.func8 (by as_aux_lemma => kernel_rfl) (by as_aux_lemma => kernel_rfl) ?_
        exact ⟨_, rfl, H.done, rfl⟩
      · skip
        replace h7 := of_decide_eq_false h7
        refine RW.fin 4 [0, 1, 2, 3, 37] [(0, .slice a xs.length c), (1, .int .i64 (k : Int)), (2, .int .i64 (n : Int)), (3, .slice b zs.length d), (37, .bool (decide ((((xs.length : Nat) : Int) : Int) > 4096)))] (by as_aux_lemma => kernel_rfl) ?_
        refine WK.cond1 (decide ((((xs.length : Nat) : Int) : Int) > 4096)) (by as_aux_lemma => kernel_rfl) (by as_aux_lemma => kernel_rfl) (fun h10 => ?_) (fun h10 => ?_)
        · skip
          replace h10 := of_decide_eq_true h10
          omega
        · skip
          replace h10 := of_decide_eq_false h10
          refine WK.run 2 [0, 1, 2, 3] [.code (cd Try.prog 8 [2, 0]), .code (cd Try.prog 8 [3])] [(0, .slice a xs.length c), (1, .int .i64 (k : Int)), (2, .int .i64 (n : Int)), (3, .slice b zs.length d)] (by as_aux_lemma => kernel_rfl) ?_
          refine WK.reg1 (l := sq 0 9) (by as_aux_lemma => kernel_rfl) (by as_aux_lemma => kernel_rfl) ?_
          refine RW.runP 3 [0, 1, 2, 3, 40, 41, 42] (sq 3 9) [(0, .slice a xs.length c), (1, .int .i64 (k : Int)), (2, .int .i64 (n : Int)), (3, .slice b zs.length d), (40, .slice a xs.length c), (41, .int .i64 (k : Int)), (42, .int .i64 (n : Int))] (by as_aux_lemma => kernel_rfl) (by as_aux_lemma => kernel_rfl) ?_
          refine RW.call (κ := .seq) (d := some 43) (r := (sq 4 9)) (g := 29) (args := #[.slice a xs.length c, .int .i64 (k : Int), .int .i64 (n : Int)]) (by as_aux_lemma => kernel_rfl) (nofun) (encode_ok (xs := xs) k n (H.rp 0 rfl) (by omega) hk hkn (by omega)) ?_
          rintro _ w11 hE14 ⟨a12, c13, rfl, hr15⟩
          have H := H.addN hE14 (F := Rp (Shape.slice (Shape.slice (Shape.bv .u8 8))) [.slice a12 ((enc xs k n).length) c13] (enc xs k n)) hr15
          have hel := enc_len (xs := xs) hkn
          refine RW.fin 5 [0, 1, 2, 3, 9, 10] [(0, .slice a xs.length c), (1, .int .i64 (k : Int)), (2, .int .i64 (n : Int)), (3, .slice b zs.length d), (9, .slice a12 ((enc xs k n).length) c13), (10, .int .i64 0)] (by as_aux_lemma => kernel_rfl) ?_
          refine WK.run 3 [0, 1, 2, 3, 9, 53] [.code (cd Try.prog 8 [3, 0, 1]), .code (cd Try.prog 8 [4])] [(0, .slice a xs.length c), (1, .int .i64 (k : Int)), (2, .int .i64 (n : Int)), (3, .slice b zs.length d), (9, .slice a12 ((enc xs k n).length) c13), (53, .bool ((((enc xs k n).length : Nat) : Int) != (n : Int)))] (by as_aux_lemma => kernel_rfl) ?_
          refine WK.cond1 ((((enc xs k n).length : Nat) : Int) != (n : Int)) (by as_aux_lemma => kernel_rfl) (by as_aux_lemma => kernel_rfl) (fun h16 => ?_) (fun h16 => ?_)
          · skip
            replace h16 := bne_iff_ne.1 h16
            omega
          · skip
            replace h16 := (bne_eq_false_iff_eq.1 h16)
            refine WK.run 7 [0, 1, 2, 3, 9, 11, 12] [.code (cd Try.prog 8 [5, 0, 1, 0]), .inBlock 0, .code (cd Try.prog 8 [6])] [(0, .slice a xs.length c), (1, .int .i64 (k : Int)), (2, .int .i64 (n : Int)), (3, .slice b zs.length d), (9, .slice a12 ((enc xs k n).length) c13), (11, .slice none 0 0), (12, .int .i64 0)] (by as_aux_lemma => kernel_rfl) ?_
            have H := H.ownNil pcS 72
            have H := H.drop (M' := []) (W' := [⟨pcS, 72, .slice none (((pcs xs k n).take 0).length) 0, (pcs xs k n).take 0⟩]) (by repeat (first | exact List.Sublist.refl _ | exact List.nil_sublist _ | apply List.Sublist.cons_cons | apply List.Sublist.cons)) (by repeat (first | exact List.Sublist.refl _ | exact List.nil_sublist _ | apply List.Sublist.cons_cons | apply List.Sublist.cons))
            refine WK.loop (α := Nat × Option Addr × Nat) (b := cd Try.prog 8 [5, 0, 1, 0, 0]) (by as_aux_lemma => kernel_rfl) (fun st_ => match st_ with | (i, ao, co) => [(0, .slice a xs.length c), (1, .int .i64 (k : Int)), (2, .int .i64 (n : Int)), (3, .slice b zs.length d), (9, .slice a12 ((enc xs k n).length) c13), (11, .slice ao (((pcs xs k n).take i).length) co), (12, .int .i64 (i : Int))]) (fun st_ w' => match st_ with | (i, ao, co) => Hp w S [] [] [⟨pcS, 72, .slice ao (((pcs xs k n).take i).length) co, (pcs xs k n).take i⟩] [Rp (Shape.slice (Shape.slice (Shape.bv .u8 8))) [.slice a12 ((enc xs k n).length) c13] (enc xs k n), Rp (Shape.slice (Shape.bv .u8 8)) [.slice a xs.length c] xs, Rp (Shape.slice (Shape.int .i64)) [.slice b zs.length d] zs] w' ∧ i ≤ n) (fun st_ => match st_ with | (i, ao, co) => n - i) (0, none, 0) ⟨H, Nat.zero_le _⟩ (rfl) ?_
            rintro ⟨i, ao, co⟩ w18 ⟨H, hinv0⟩ hback17
            refine WK.run 3 [0, 1, 2, 3, 9, 11, 12, 56] [.code (cd Try.prog 8 [5, 0, 1, 0, 0, 0, 1]), .code (cd Try.prog 8 [5, 0, 1, 0, 0, 1]), .inLoop (cd Try.prog 8 [5, 0, 1, 0, 0]), .inBlock 0, .code (cd Try.prog 8 [6])] [(0, .slice a xs.length c), (1, .int .i64 (k : Int)), (2, .int .i64 (n : Int)), (3, .slice b zs.length d), (9, .slice a12 ((enc xs k n).length) c13), (11, .slice ao (((pcs xs k n).take i).length) co), (12, .int .i64 (i : Int)), (56, .bool (decide (((i : Int) : Int) < (n : Int))))] (by as_aux_lemma => kernel_rfl) ?_
            refine WK.cond1 (decide (((i : Int) : Int) < (n : Int))) (by as_aux_lemma => kernel_rfl) (by as_aux_lemma => kernel_rfl) (fun h19 => ?_) (fun h19 => ?_)
            · skip
              replace h19 := of_decide_eq_true h19
              refine WK.run 3 [0, 1, 2, 3, 9, 11, 12] [.code (cd Try.prog 8 [5, 0, 1, 0, 0, 1, 0, 0]), .inBlock 1, .code (cd Try.prog 8 [5, 0, 1, 0, 0, 2]), .inLoop (cd Try.prog 8 [5, 0, 1, 0, 0]), .inBlock 0, .code (cd Try.prog 8 [6])] [(0, .slice a xs.length c), (1, .int .i64 (k : Int)), (2, .int .i64 (n : Int)), (3, .slice b zs.length d), (9, .slice a12 ((enc xs k n).length) c13), (11, .slice ao (((pcs xs k n).take i).length) co), (12, .int .i64 (i : Int))] (by as_aux_lemma => kernel_rfl) ?_
              refine WK.reg1 (l := sq 0 10) (by as_aux_lemma => kernel_rfl) (by as_aux_lemma => kernel_rfl) ?_
              refine RW.runP 4 [0, 1, 2, 3, 9, 11, 12, 59, 60, 61, 62] (sq 4 10) [(0, .slice a xs.length c), (1, .int .i64 (k : Int)), (2, .int .i64 (n : Int)), (3, .slice b zs.length d), (9, .slice a12 ((enc xs k n).length) c13), (11, .slice ao (((pcs xs k n).take i).length) co), (12, .int .i64 (i : Int)), (59, .slice ao (((pcs xs k n).take i).length) co), (60, .int .i64 (i : Int)), (61, .slice a12 ((enc xs k n).length) c13), (62, .int .i64 (i : Int))] (by as_aux_lemma => kernel_rfl) (by as_aux_lemma => kernel_rfl) ?_
              have hx20 : i < (enc xs k n).length := by omega
              refine RW.index (κ := .seq) (d := some 63) (r := (sq 5 10)) (T := 29) (e := 23) (ik := .i64) (ix := (i : Int)) (sh := (Shape.slice (Shape.bv .u8 8))) (x := (enc xs k n)[i]) (by as_aux_lemma => kernel_rfl) (by as_aux_lemma => kernel_rfl) H 0 rfl i (by omega) (List.getElem?_eq_getElem hx20) ?_
              intro b21 o22 es23 hr24 H
              obtain ⟨a25, k26, rfl⟩ := Shape.slice_form' hr24
              have H := H.add (F := Rp (Shape.slice (Shape.bv .u8 8)) [.slice a25 (((enc xs k n)[i]).length) k26] ((enc xs k n)[i])) hr24
              refine RW.load (κ := .seq) (d := some 64) (r := (sq 6 10)) (T := 23) (b := b21) (o' := o22) (k := 0) (v := .slice a25 (((enc xs k n)[i]).length) k26) (by as_aux_lemma => kernel_rfl) (H.fc 1 rfl) rfl (by as_aux_lemma => kernel_rfl) ?_
              refine RW.runP 1 [0, 1, 2, 3, 9, 11, 12, 59, 65] (sq 7 10) [(0, .slice a xs.length c), (1, .int .i64 (k : Int)), (2, .int .i64 (n : Int)), (3, .slice b zs.length d), (9, .slice a12 ((enc xs k n).length) c13), (11, .slice ao (((pcs xs k n).take i).length) co), (12, .int .i64 (i : Int)), (59, .slice ao (((pcs xs k n).take i).length) co), (65, .agg #[.int .i64 (i : Int), .slice a25 (((enc xs k n)[i]).length) k26])] (by as_aux_lemma => kernel_rfl) (by as_aux_lemma => kernel_rfl) ?_
              refine RW.new (κ := .seq) (d := some 66) (r := (sq 8 10)) (o := .cells #[.int .i64 (i : Int), .slice a25 (((enc xs k n)[i]).length) k26] 72 (0, 0)) (v := fun b => .slice (some ⟨b, 0, none⟩) 1 1) (fun b => by as_aux_lemma => kernel_rfl) (nofun) H ?_
              intro b27 w28 H
              have H := H.freeze 0 rfl pcS ([⟨(i : Int), (enc xs k n)[i]⟩] : List Pc) 1 (by simp [maxLen]) (by first | exact Nat.le_refl _ | simp) (EsP.cons (c := [.int .i64 (i : Int), .slice a25 (((enc xs k n)[i]).length) k26]) (pc_mk (Shape.i64_in (by first | omega | (simp <;> omega)) (by first | omega | (simp <;> omega))) (H.rp 0 rfl)) EsP.nil)
              have H : Hp w S [] [] [⟨pcS, 72, .slice ao (((pcs xs k n).take i).length) co, (pcs xs k n).take i⟩] [Rp (Shape.slice pcS) [.slice (some ⟨b27, 0, none⟩) 1 1] ([⟨(i : Int), (enc xs k n)[i]⟩] : List Pc), Rp (Shape.slice (Shape.bv .u8 8)) [.slice a25 (((enc xs k n)[i]).length) k26] ((enc xs k n)[i]), Fc b21 o22 [.slice a25 (((enc xs k n)[i]).length) k26], Rp (Shape.slice (Shape.slice (Shape.bv .u8 8))) [.slice a12 ((enc xs k n).length) c13] (enc xs k n), Rp (Shape.slice (Shape.bv .u8 8)) [.slice a xs.length c] xs, Rp (Shape.slice (Shape.int .i64)) [.slice b zs.length d] zs] _ := H
              refine RW.appendW (d := some 67) (r := (sq 9 10)) (T := 70) (ty := 70) (e := 72) (m := 2) (by_ := 32) (v := .slice ao (((pcs xs k n).take i).length) co) (a2 := (some ⟨b27, 0, none⟩)) (l2 := 1) (c2 := 1) (zs := (pcs xs k n).take (i + 1)) (by as_aux_lemma => kernel_rfl) (by as_aux_lemma => kernel_rfl) rfl H 0 rfl 0 rfl (take_snoc (pcs_get (by omega) (by omega))) (by rw [List.length_take, pcs_len]; omega) ?_
              intro a29 c30 w32 H hc31
              have H : Hp w S [] [] [⟨pcS, 72, .slice a29 (((pcs xs k n).take (i + 1)).length) c30, (pcs xs k n).take (i + 1)⟩] [Rp (Shape.slice pcS) [.slice (some ⟨b27, 0, none⟩) 1 1] ([⟨(i : Int), (enc xs k n)[i]⟩] : List Pc), Rp (Shape.slice (Shape.bv .u8 8)) [.slice a25 (((enc xs k n)[i]).length) k26] ((enc xs k n)[i]), Fc b21 o22 [.slice a25 (((enc xs k n)[i]).length) k26], Rp (Shape.slice (Shape.slice (Shape.bv .u8 8))) [.slice a12 ((enc xs k n).length) c13] (enc xs k n), Rp (Shape.slice (Shape.bv .u8 8)) [.slice a xs.length c] xs, Rp (Shape.slice (Shape.int .i64)) [.slice b zs.length d] zs] _ := H
              refine RW.fin 1 [0, 1, 2, 3, 9, 11, 12] [(0, .slice a xs.length c), (1, .int .i64 (k : Int)), (2, .int .i64 (n : Int)), (3, .slice b zs.length d), (9, .slice a12 ((enc xs k n).length) c13), (11, .slice a29 (((pcs xs k n).take (i + 1)).length) c30), (12, .int .i64 (i : Int))] (by as_aux_lemma => kernel_rfl) ?_
              refine WK.run 1 [0, 1, 2, 3, 9, 11, 12] [.code (cd Try.prog 8 [5, 0, 1, 0, 0, 2]), .inLoop (cd Try.prog 8 [5, 0, 1, 0, 0]), .inBlock 0, .code (cd Try.prog 8 [6])] [(0, .slice a xs.length c), (1, .int .i64 (k : Int)), (2, .int .i64 (n : Int)), (3, .slice b zs.length d), (9, .slice a12 ((enc xs k n).length) c13), (11, .slice a29 (((pcs xs k n).take (i + 1)).length) c30), (12, .int .i64 (i : Int))] (by as_aux_lemma => kernel_rfl) ?_
              refine WK.reg1 (l := sq 0 3) (by as_aux_lemma => kernel_rfl) (by as_aux_lemma => kernel_rfl) ?_
              refine RW.runP 1 [0, 1, 2, 3, 9, 11, 12, 57] (sq 1 3) [(0, .slice a xs.length c), (1, .int .i64 (k : Int)), (2, .int .i64 (n : Int)), (3, .slice b zs.length d), (9, .slice a12 ((enc xs k n).length) c13), (11, .slice a29 (((pcs xs k n).take (i + 1)).length) c30), (12, .int .i64 (i : Int)), (57, .int .i64 (i : Int))] (by as_aux_lemma => kernel_rfl) (by as_aux_lemma => kernel_rfl) ?_
              refine RW.wr64 (κ := .seq) (d := some 58) (r := (sq 2 3)) (t := (i : Int) + 1) (by as_aux_lemma => kernel_rfl) (by omega) ?_
              refine RW.fin 1 [0, 1, 2, 3, 9, 11, 12] [(0, .slice a xs.length c), (1, .int .i64 (k : Int)), (2, .int .i64 (n : Int)), (3, .slice b zs.length d), (9, .slice a12 ((enc xs k n).length) c13), (11, .slice a29 (((pcs xs k n).take (i + 1)).length) c30), (12, .int .i64 ((i : Int) + 1))] (by as_aux_lemma => kernel_rfl) ?_
              have H := H.pick [3, 4, 5] (G' := [Rp (Shape.slice (Shape.slice (Shape.bv .u8 8))) [.slice a12 ((enc xs k n).length) c13] (enc xs k n), Rp (Shape.slice (Shape.bv .u8 8)) [.slice a xs.length c] xs, Rp (Shape.slice (Shape.int .i64)) [.slice b zs.length d] zs]) rfl
              exact WK.back (hback17 (i + 1, a29, c30) _ ⟨H, by omega⟩ (by first | omega | (simp only []; omega))) (by as_aux_lemma => kernel_rfl)
            · skip
              replace h19 := of_decide_eq_false h19
              have hie : (pcs xs k n).take i = (pcs xs k n) := List.take_of_length_le (by rw [pcs_len]; omega)
              rw [hie] at H ⊢
              obtain ⟨pb, hpb⟩ := H.ownLit (by rw [pcs_len]; omega) rfl
              subst hpb
              have H := H.reW (ys := (pcs xs k n)) (v' := .slice (some ⟨pb, 0, none⟩) n co) rfl (by rw [pcs_len])
              rw [show (Value.slice (some ⟨pb, 0, none⟩) (pcs xs k n).length co) = .slice (some ⟨pb, 0, none⟩) n co by rw [pcs_len]]
              have H : Hp w S [] [] [⟨pcS, 72, .slice (some ⟨pb, 0, none⟩) n co, (pcs xs k n)⟩] [Rp (Shape.slice (Shape.slice (Shape.bv .u8 8))) [.slice a12 ((enc xs k n).length) c13] (enc xs k n), Rp (Shape.slice (Shape.bv .u8 8)) [.slice a xs.length c] xs, Rp (Shape.slice (Shape.int .i64)) [.slice b zs.length d] zs] _ := H
              refine WK.run 5 [0, 1, 2, 3, 9, 11, 13] [.code (cd Try.prog 8 [6, 0, 1, 0]), .inBlock 2, .code (cd Try.prog 8 [7])] [(0, .slice a xs.length c), (1, .int .i64 (k : Int)), (2, .int .i64 (n : Int)), (3, .slice b zs.length d), (9, .slice a12 ((enc xs k n).length) c13), (11, .slice (some ⟨pb, 0, none⟩) n co), (13, .int .i64 0)] (by as_aux_lemma => kernel_rfl) ?_
              refine WK.loop (α := Nat × List Pc) (b := cd Try.prog 8 [6, 0, 1, 0, 0]) (by as_aux_lemma => kernel_rfl) (fun st_ => match st_ with | (m, q) => [(0, .slice a xs.length c), (1, .int .i64 (k : Int)), (2, .int .i64 (n : Int)), (3, .slice b zs.length d), (9, .slice a12 ((enc xs k n).length) c13), (11, .slice (some ⟨pb, 0, none⟩) n co), (13, .int .i64 (m : Int))]) (fun st_ w' => match st_ with | (m, q) => Hp w S [] [] [⟨pcS, 72, .slice (some ⟨pb, 0, none⟩) n co, q⟩] [Rp (Shape.slice (Shape.slice (Shape.bv .u8 8))) [.slice a12 ((enc xs k n).length) c13] (enc xs k n), Rp (Shape.slice (Shape.bv .u8 8)) [.slice a xs.length c] xs, Rp (Shape.slice (Shape.int .i64)) [.slice b zs.length d] zs] w' ∧ m ≤ k ∧ q.Perm (pcs xs k n)) (fun st_ => match st_ with | (m, q) => k - m) (0, (pcs xs k n)) ⟨H, Nat.zero_le _, List.Perm.refl _⟩ (rfl) ?_
              rintro ⟨m, q⟩ w34 ⟨H, hinv1⟩ hback33
              obtain ⟨hmk, hqp⟩ := hinv1
              have hql : q.length = n := by rw [hqp.length_eq, pcs_len]
              refine WK.run 3 [0, 1, 2, 3, 9, 11, 13, 70] [.code (cd Try.prog 8 [6, 0, 1, 0, 0, 0, 1]), .code (cd Try.prog 8 [6, 0, 1, 0, 0, 1]), .inLoop (cd Try.prog 8 [6, 0, 1, 0, 0]), .inBlock 2, .code (cd Try.prog 8 [7])] [(0, .slice a xs.length c), (1, .int .i64 (k : Int)), (2, .int .i64 (n : Int)), (3, .slice b zs.length d), (9, .slice a12 ((enc xs k n).length) c13), (11, .slice (some ⟨pb, 0, none⟩) n co), (13, .int .i64 (m : Int)), (70, .bool (decide (((m : Int) : Int) < (k : Int))))] (by as_aux_lemma => kernel_rfl) ?_
              refine WK.cond1 (decide (((m : Int) : Int) < (k : Int))) (by as_aux_lemma => kernel_rfl) (by as_aux_lemma => kernel_rfl) (fun h35 => ?_) (fun h35 => ?_)
              · skip
                replace h35 := of_decide_eq_true h35
                refine WK.run 7 [0, 1, 2, 3, 9, 11, 13, 14] [.code (cd Try.prog 8 [6, 0, 1, 0, 0, 1, 0, 0, 1, 0, 0]), .code (cd Try.prog 8 [6, 0, 1, 0, 0, 1, 0, 0, 1, 0, 1]), .code (cd Try.prog 8 [6, 0, 1, 0, 0, 1, 0, 0, 2]), .inBlock 3, .code (cd Try.prog 8 [6, 0, 1, 0, 0, 2]), .inLoop (cd Try.prog 8 [6, 0, 1, 0, 0]), .inBlock 2, .code (cd Try.prog 8 [7])] [(0, .slice a xs.length c), (1, .int .i64 (k : Int)), (2, .int .i64 (n : Int)), (3, .slice b zs.length d), (9, .slice a12 ((enc xs k n).length) c13), (11, .slice (some ⟨pb, 0, none⟩) n co), (13, .int .i64 (m : Int)), (14, .int .i64 (m : Int))] (by as_aux_lemma => kernel_rfl) ?_
                refine WK.reg1 (l := sq 0 11) (by as_aux_lemma => kernel_rfl) (by as_aux_lemma => kernel_rfl) ?_
                refine RW.runP 5 [0, 1, 2, 3, 9, 11, 13, 14, 78] (sq 5 11) [(0, .slice a xs.length c), (1, .int .i64 (k : Int)), (2, .int .i64 (n : Int)), (3, .slice b zs.length d), (9, .slice a12 ((enc xs k n).length) c13), (11, .slice (some ⟨pb, 0, none⟩) n co), (13, .int .i64 (m : Int)), (14, .int .i64 (m : Int)), (78, .bool (decide (((m : Int) : Int) < ((zs.length : Nat) : Int))))] (by as_aux_lemma => kernel_rfl) (by as_aux_lemma => kernel_rfl) ?_
                refine RW.test (fun b_ => [(0, .slice a xs.length c), (1, .int .i64 (k : Int)), (2, .int .i64 (n : Int)), (3, .slice b zs.length d), (9, .slice a12 ((enc xs k n).length) c13), (11, .slice (some ⟨pb, 0, none⟩) n co), (13, .int .i64 (m : Int)), (14, .int .i64 (m : Int)), (78, .bool b_)]) (decide (((m : Int) : Int) < ((zs.length : Nat) : Int))) (fun h36 => ?_) (fun h36 => ?_)
                · skip
                  replace h36 := of_decide_eq_true h36
                  refine RW.runP 2 [0, 1, 2, 3, 9, 11, 13, 14, 78, 79, 80] (sq 7 11) [(0, .slice a xs.length c), (1, .int .i64 (k : Int)), (2, .int .i64 (n : Int)), (3, .slice b zs.length d), (9, .slice a12 ((enc xs k n).length) c13), (11, .slice (some ⟨pb, 0, none⟩) n co), (13, .int .i64 (m : Int)), (14, .int .i64 (m : Int)), (78, .bool true), (79, .slice b zs.length d), (80, .int .i64 (m : Int))] (by as_aux_lemma => kernel_rfl) (by as_aux_lemma => kernel_rfl) ?_
                  have hx37 : m < zs.length := by omega
                  refine RW.index (κ := .seq) (d := some 81) (r := (sq 8 11)) (T := 25) (e := 3) (ik := .i64) (ix := (m : Int)) (sh := (Shape.int .i64)) (x := zs[m]) (by as_aux_lemma => kernel_rfl) (by as_aux_lemma => kernel_rfl) H 2 rfl m (by omega) (List.getElem?_eq_getElem hx37) ?_
                  intro b38 o39 es40 hr41 H
                  have hb42 := Shape.i64_bd hr41
                  obtain ⟨rfl, -⟩ := hr41
                  refine RW.load (κ := .seq) (d := some 82) (r := (sq 9 11)) (T := 3) (b := b38) (o' := o39) (k := 0) (v := .int .i64 (zs[m])) (by as_aux_lemma => kernel_rfl) (H.fc 0 rfl) rfl (by as_aux_lemma => kernel_rfl) ?_
                  refine RW.fin 2 [0, 1, 2, 3, 9, 11, 13, 14, 84] [(0, .slice a xs.length c), (1, .int .i64 (k : Int)), (2, .int .i64 (n : Int)), (3, .slice b zs.length d), (9, .slice a12 ((enc xs k n).length) c13), (11, .slice (some ⟨pb, 0, none⟩) n co), (13, .int .i64 (m : Int)), (14, .int .i64 (m : Int)), (84, .bool (decide ((zs[m] : Int) ≥ 0)))] (by as_aux_lemma => kernel_rfl) ?_
                  refine WK.cond1 (decide ((zs[m] : Int) ≥ 0)) (by as_aux_lemma => kernel_rfl) (by as_aux_lemma => kernel_rfl) (fun h43 => ?_) (fun h43 => ?_)
                  · skip
                    replace h43 := of_decide_eq_true h43
                    have hm1 := Int.emod_nonneg (zs[m]) (show ((n : Int) - (m : Int)) ≠ 0 by omega)
                    have hm2 := Int.emod_lt_of_pos (zs[m]) (show 0 < ((n : Int) - (m : Int)) by omega)
                    obtain ⟨j, hj⟩ : ∃ j : Nat, (j : Int) = ((m : Int) + zs[m] % ((n : Int) - (m : Int))) := ⟨((m : Int) + zs[m] % ((n : Int) - (m : Int))).toNat, by omega⟩
                    refine WK.reg1 (l := sq 0 11) (by as_aux_lemma => kernel_rfl) (by as_aux_lemma => kernel_rfl) ?_
                    refine RW.runP 3 [0, 1, 2, 3, 9, 11, 13, 14, 85, 86, 87] (sq 3 11) [(0, .slice a xs.length c), (1, .int .i64 (k : Int)), (2, .int .i64 (n : Int)), (3, .slice b zs.length d), (9, .slice a12 ((enc xs k n).length) c13), (11, .slice (some ⟨pb, 0, none⟩) n co), (13, .int .i64 (m : Int)), (14, .int .i64 (m : Int)), (85, .int .i64 (m : Int)), (86, .slice b zs.length d), (87, .int .i64 (m : Int))] (by as_aux_lemma => kernel_rfl) (by as_aux_lemma => kernel_rfl) ?_
                    have hx44 : m < zs.length := by omega
                    refine RW.index (κ := .seq) (d := some 88) (r := (sq 4 11)) (T := 25) (e := 3) (ik := .i64) (ix := (m : Int)) (sh := (Shape.int .i64)) (x := zs[m]) (by as_aux_lemma => kernel_rfl) (by as_aux_lemma => kernel_rfl) H 3 rfl m (by omega) (List.getElem?_eq_getElem hx44) ?_
                    intro b45 o46 es47 hr48 H
                    have hb49 := Shape.i64_bd hr48
                    obtain ⟨rfl, -⟩ := hr48
                    refine RW.load (κ := .seq) (d := some 89) (r := (sq 5 11)) (T := 3) (b := b45) (o' := o46) (k := 0) (v := .int .i64 (zs[m])) (by as_aux_lemma => kernel_rfl) (H.fc 0 rfl) rfl (by as_aux_lemma => kernel_rfl) ?_
                    refine RW.runP 2 [0, 1, 2, 3, 9, 11, 13, 14, 85, 89, 90, 91] (sq 7 11) [(0, .slice a xs.length c), (1, .int .i64 (k : Int)), (2, .int .i64 (n : Int)), (3, .slice b zs.length d), (9, .slice a12 ((enc xs k n).length) c13), (11, .slice (some ⟨pb, 0, none⟩) n co), (13, .int .i64 (m : Int)), (14, .int .i64 (m : Int)), (85, .int .i64 (m : Int)), (89, .int .i64 (zs[m])), (90, .int .i64 (n : Int)), (91, .int .i64 (m : Int))] (by as_aux_lemma => kernel_rfl) (by as_aux_lemma => kernel_rfl) ?_
                    refine RW.wr64 (κ := .seq) (d := some 92) (r := (sq 8 11)) (t := (n : Int) - (m : Int)) (by as_aux_lemma => kernel_rfl) (by omega) ?_
                    refine RW.readS (κ := .seq) (d := some 93) (r := (sq 9 11)) (s := semV (Op.intDiv .rem .i64 (zs[m]) ((n : Int) - (m : Int)))) (v := .int .i64 ((zs[m]) % ((n : Int) - (m : Int)))) (by as_aux_lemma => kernel_rfl) (fun w' _ => semV_run (rem_run_i64 (by omega) (by omega))) ?_
                    refine RW.wr64 (κ := .seq) (d := some 94) (r := (sq 10 11)) (t := (m : Int) + ((zs[m]) % ((n : Int) - (m : Int)))) (by as_aux_lemma => kernel_rfl) (by omega) ?_
                    refine RW.fin 1 [0, 1, 2, 3, 9, 11, 13, 14] [(0, .slice a xs.length c), (1, .int .i64 (k : Int)), (2, .int .i64 (n : Int)), (3, .slice b zs.length d), (9, .slice a12 ((enc xs k n).length) c13), (11, .slice (some ⟨pb, 0, none⟩) n co), (13, .int .i64 (m : Int)), (14, .int .i64 ((m : Int) + ((zs[m]) % ((n : Int) - (m : Int)))))] (by as_aux_lemma => kernel_rfl) ?_
                    refine WK.joinW (fun w_ => Hp w S [] [] [⟨pcS, 72, .slice (some ⟨pb, 0, none⟩) n co, swapP q m j⟩] [Rp (Shape.slice (Shape.slice (Shape.bv .u8 8))) [.slice a12 ((enc xs k n).length) c13] (enc xs k n), Rp (Shape.slice (Shape.bv .u8 8)) [.slice a xs.length c] xs, Rp (Shape.slice (Shape.int .i64)) [.slice b zs.length d] zs] w_) [(0, .slice a xs.length c), (1, .int .i64 (k : Int)), (2, .int .i64 (n : Int)), (3, .slice b zs.length d), (9, .slice a12 ((enc xs k n).length) c13), (11, .slice (some ⟨pb, 0, none⟩) n co), (13, .int .i64 (m : Int))] [.inBlock 3, .code (cd Try.prog 8 [6, 0, 1, 0, 0, 2]), .inLoop (cd Try.prog 8 [6, 0, 1, 0, 0]), .inBlock 2, .code (cd Try.prog 8 [7])] (fun hJ50 => ?_) (fun w51 H => ?_)
                    · skip
                      refine WK.drawP1 13 [0, 1, 2, 3, 4, 5, 8, 9] [(104, .int .i64 (m : Int)), (103, .slice (some ⟨pb, 0, none⟩) n co), (100, .int .i64 ((m : Int) + ((zs[m]) % ((n : Int) - (m : Int))))), (99, .slice (some ⟨pb, 0, none⟩) n co), (98, .int .i64 ((m : Int) + ((zs[m]) % ((n : Int) - (m : Int))))), (97, .slice (some ⟨pb, 0, none⟩) n co), (96, .int .i64 (m : Int)), (95, .slice (some ⟨pb, 0, none⟩) n co), (0, .slice a xs.length c), (1, .int .i64 (k : Int)), (2, .int .i64 (n : Int)), (3, .slice b zs.length d), (9, .slice a12 ((enc xs k n).length) c13), (11, .slice (some ⟨pb, 0, none⟩) n co), (13, .int .i64 (m : Int)), (14, .int .i64 ((m : Int) + ((zs[m]) % ((n : Int) - (m : Int)))))] [(6, .qui), (7, .qui), (10, .qui), (11, .qui), (12, .qui)] [(6, .qui), (7, .qui), (10, .qui), (11, .qui), (12, .qui), (13, .seq), (14, .seq), (15, .seq)] Try_mixed (by as_aux_lemma => kernel_rfl) (by as_aux_lemma => kernel_rfl) (by as_aux_lemma => kernel_rfl) (by as_aux_lemma => kernel_rfl) ?_
                      have H := H.draw
                      generalize ({ w34 with drawn := w34.drawn + 1 } : World) = w52 at H ⊢
                      have hn54 : n = q.length := by omega
                      have hx53 : j < q.length := by omega
                      refine RW.indexW (κ := .qui) (d := some 101) (r := [(7, .qui), (10, .qui), (11, .qui), (12, .qui), (13, .seq), (14, .seq), (15, .seq)]) (T := 70) (e := 72) (m := 2) (ik := .i64) (ix := (m : Int) + ((zs[m]) % ((n : Int) - (m : Int)))) (sh := pcS) (xs := q) (a := (some ⟨pb, 0, none⟩)) (len := n) (cap := co) (by as_aux_lemma => kernel_rfl) (by as_aux_lemma => kernel_rfl) rfl H j (by omega) hx53 hn54 ?_
                      intro b55 es56 ha57 hcell58 hr59
                      cases ha57
                      obtain ⟨a1q60, k1q60, rfl, hf61, hf62⟩ := pc_open hr59
                      have H := H.add (F := Rp (Shape.slice (Shape.bv .u8 8)) [.slice a1q60 ((q[j]).data.length) k1q60] ((q[j]).data)) hf62
                      refine RW.load (κ := .qui) (d := some 102) (r := [(10, .qui), (11, .qui), (12, .qui), (13, .seq), (14, .seq), (15, .seq)]) (T := 72) (b := pb) (o' := j * 2) (k := 0) (v := .agg #[.int .i64 ((q[j]).index), .slice a1q60 ((q[j]).data.length) k1q60]) (by as_aux_lemma => kernel_rfl) hcell58 rfl (by as_aux_lemma => kernel_rfl) ?_
                      have hn64 : n = q.length := by omega
                      have hx63 : m < q.length := by omega
                      refine RW.indexW (κ := .qui) (d := some 105) (r := [(11, .qui), (12, .qui), (13, .seq), (14, .seq), (15, .seq)]) (T := 70) (e := 72) (m := 2) (ik := .i64) (ix := (m : Int)) (sh := pcS) (xs := q) (a := (some ⟨pb, 0, none⟩)) (len := n) (cap := co) (by as_aux_lemma => kernel_rfl) (by as_aux_lemma => kernel_rfl) rfl H m (by omega) hx63 hn64 ?_
                      intro b65 es66 ha67 hcell68 hr69
                      cases ha67
                      obtain ⟨a1q70, k1q70, rfl, hf71, hf72⟩ := pc_open hr69
                      have H := H.add (F := Rp (Shape.slice (Shape.bv .u8 8)) [.slice a1q70 ((q[m]).data.length) k1q70] ((q[m]).data)) hf72
                      refine RW.load (κ := .qui) (d := some 106) (r := [(12, .qui), (13, .seq), (14, .seq), (15, .seq)]) (T := 72) (b := pb) (o' := m * 2) (k := 0) (v := .agg #[.int .i64 ((q[m]).index), .slice a1q70 ((q[m]).data.length) k1q70]) (by as_aux_lemma => kernel_rfl) hcell68 rfl (by as_aux_lemma => kernel_rfl) ?_
                      have hn74 : n = q.length := by omega
                      have hx73 : m < q.length := by omega
                      refine RW.indexW (κ := .qui) (d := some 107) (r := [(13, .seq), (14, .seq), (15, .seq)]) (T := 70) (e := 72) (m := 2) (ik := .i64) (ix := (m : Int)) (sh := pcS) (xs := q) (a := (some ⟨pb, 0, none⟩)) (len := n) (cap := co) (by as_aux_lemma => kernel_rfl) (by as_aux_lemma => kernel_rfl) rfl H m (by omega) hx73 hn74 ?_
                      intro b75 es76 ha77 hcell78 hr79
                      cases ha77
                      obtain ⟨a1q80, k1q80, rfl, hf81, hf82⟩ := pc_open hr79
                      have H := H.add (F := Rp (Shape.slice (Shape.bv .u8 8)) [.slice a1q80 ((q[m]).data.length) k1q80] ((q[m]).data)) hf82
                      refine RW.storeW (d := none) (r := [(14, .seq), (15, .seq)]) (e := 72) (m := 2) (b := pb) (k := m) (v := .agg #[.int .i64 ((q[j]).index), .slice a1q60 ((q[j]).data.length) k1q60]) (by as_aux_lemma => kernel_rfl) rfl (by as_aux_lemma => kernel_rfl) H rfl hx73 hn74 (q[j]) (pc_mk (Shape.i64_in (by first | omega | (simp <;> omega)) (by first | omega | (simp <;> omega))) (H.rp 2 rfl)) ?_
                      intro w83 H
                      have hn85 : n = (q.set m (q[j])).length := by rw [List.length_set]; omega
                      have hx84 : j < (q.set m (q[j])).length := by rw [List.length_set]; omega
                      refine RW.indexW (κ := .seq) (d := some 108) (r := [(15, .seq)]) (T := 70) (e := 72) (m := 2) (ik := .i64) (ix := (m : Int) + ((zs[m]) % ((n : Int) - (m : Int)))) (sh := pcS) (xs := q.set m (q[j])) (a := (some ⟨pb, 0, none⟩)) (len := n) (cap := co) (by as_aux_lemma => kernel_rfl) (by as_aux_lemma => kernel_rfl) rfl H j (by omega) hx84 hn85 ?_
                      intro b86 es87 ha88 hcell89 hr90
                      cases ha88
                      obtain ⟨a1q91, k1q91, rfl, hf92, hf93⟩ := pc_open hr90
                      have H := H.add (F := Rp (Shape.slice (Shape.bv .u8 8)) [.slice a1q91 (((q.set m (q[j]))[j]).data.length) k1q91] (((q.set m (q[j]))[j]).data)) hf93
                      refine RW.storeW (d := none) (r := []) (e := 72) (m := 2) (b := pb) (k := j) (v := .agg #[.int .i64 ((q[m]).index), .slice a1q70 ((q[m]).data.length) k1q70]) (by as_aux_lemma => kernel_rfl) rfl (by as_aux_lemma => kernel_rfl) H rfl hx84 hn85 (q[m]) (pc_mk (Shape.i64_in (by first | omega | (simp <;> omega)) (by first | omega | (simp <;> omega))) (H.rp 2 rfl)) ?_
                      intro w94 H
                      have H := H.reW (ys := swapP q m j) (by unfold swapP; rw [pcAt_eq (show m < q.length by omega)]; try rw [pcAt_eq (show j < q.length by omega)])
                      refine RW.fin 0 [0, 1, 2, 3, 9, 11, 13] [(0, .slice a xs.length c), (1, .int .i64 (k : Int)), (2, .int .i64 (n : Int)), (3, .slice b zs.length d), (9, .slice a12 ((enc xs k n).length) c13), (11, .slice (some ⟨pb, 0, none⟩) n co), (13, .int .i64 (m : Int))] (by as_aux_lemma => kernel_rfl) ?_
                      have H := H.pick [6, 7, 8] (G' := [Rp (Shape.slice (Shape.slice (Shape.bv .u8 8))) [.slice a12 ((enc xs k n).length) c13] (enc xs k n), Rp (Shape.slice (Shape.bv .u8 8)) [.slice a xs.length c] xs, Rp (Shape.slice (Shape.int .i64)) [.slice b zs.length d] zs]) rfl
                      exact hJ50 _ H
                    · skip
                      refine WK.run 1 [0, 1, 2, 3, 9, 11, 13] [.code (cd Try.prog 8 [6, 0, 1, 0, 0, 2]), .inLoop (cd Try.prog 8 [6, 0, 1, 0, 0]), .inBlock 2, .code (cd Try.prog 8 [7])] [(0, .slice a xs.length c), (1, .int .i64 (k : Int)), (2, .int .i64 (n : Int)), (3, .slice b zs.length d), (9, .slice a12 ((enc xs k n).length) c13), (11, .slice (some ⟨pb, 0, none⟩) n co), (13, .int .i64 (m : Int))] (by as_aux_lemma => kernel_rfl) ?_
                      refine WK.reg1 (l := sq 0 3) (by as_aux_lemma => kernel_rfl) (by as_aux_lemma => kernel_rfl) ?_
                      refine RW.runP 1 [0, 1, 2, 3, 9, 11, 13, 71] (sq 1 3) [(0, .slice a xs.length c), (1, .int .i64 (k : Int)), (2, .int .i64 (n : Int)), (3, .slice b zs.length d), (9, .slice a12 ((enc xs k n).length) c13), (11, .slice (some ⟨pb, 0, none⟩) n co), (13, .int .i64 (m : Int)), (71, .int .i64 (m : Int))] (by as_aux_lemma => kernel_rfl) (by as_aux_lemma => kernel_rfl) ?_
                      refine RW.wr64 (κ := .seq) (d := some 72) (r := (sq 2 3)) (t := (m : Int) + 1) (by as_aux_lemma => kernel_rfl) (by omega) ?_
                      refine RW.fin 1 [0, 1, 2, 3, 9, 11, 13] [(0, .slice a xs.length c), (1, .int .i64 (k : Int)), (2, .int .i64 (n : Int)), (3, .slice b zs.length d), (9, .slice a12 ((enc xs k n).length) c13), (11, .slice (some ⟨pb, 0, none⟩) n co), (13, .int .i64 ((m : Int) + 1))] (by as_aux_lemma => kernel_rfl) ?_
                      exact WK.back (hback33 (m + 1, swapP q m j) _ ⟨H, by omega, (swapP_perm (by omega) (by omega)).trans hqp⟩ (by simp only []; omega)) (by as_aux_lemma => kernel_rfl)
                  · skip
                    replace h43 := of_decide_eq_false h43
                    refine WK.run 1 [0, 1, 2, 3, 9, 11, 13, 14] [.code (cd Try.prog 8 [6, 0, 1, 0, 0, 1, 0, 0, 2]), .inBlock 3, .code (cd Try.prog 8 [6, 0, 1, 0, 0, 2]), .inLoop (cd Try.prog 8 [6, 0, 1, 0, 0]), .inBlock 2, .code (cd Try.prog 8 [7])] [(0, .slice a xs.length c), (1, .int .i64 (k : Int)), (2, .int .i64 (n : Int)), (3, .slice b zs.length d), (9, .slice a12 ((enc xs k n).length) c13), (11, .slice (some ⟨pb, 0, none⟩) n co), (13, .int .i64 (m : Int)), (14, .int .i64 (m : Int))] (by as_aux_lemma => kernel_rfl) ?_
                    refine WK.joinW (fun w_ => Hp w S [] [] [⟨pcS, 72, .slice (some ⟨pb, 0, none⟩) n co, swapP q m m⟩] [Rp (Shape.slice (Shape.slice (Shape.bv .u8 8))) [.slice a12 ((enc xs k n).length) c13] (enc xs k n), Rp (Shape.slice (Shape.bv .u8 8)) [.slice a xs.length c] xs, Rp (Shape.slice (Shape.int .i64)) [.slice b zs.length d] zs] w_) [(0, .slice a xs.length c), (1, .int .i64 (k : Int)), (2, .int .i64 (n : Int)), (3, .slice b zs.length d), (9, .slice a12 ((enc xs k n).length) c13), (11, .slice (some ⟨pb, 0, none⟩) n co), (13, .int .i64 (m : Int))] [.inBlock 3, .code (cd Try.prog 8 [6, 0, 1, 0, 0, 2]), .inLoop (cd Try.prog 8 [6, 0, 1, 0, 0]), .inBlock 2, .code (cd Try.prog 8 [7])] (fun hJ95 => ?_) (fun w96 H => ?_)
                    · skip
                      refine WK.drawP1 13 [0, 1, 2, 3, 4, 5, 8, 9] [(104, .int .i64 (m : Int)), (103, .slice (some ⟨pb, 0, none⟩) n co), (100, .int .i64 (m : Int)), (99, .slice (some ⟨pb, 0, none⟩) n co), (98, .int .i64 (m : Int)), (97, .slice (some ⟨pb, 0, none⟩) n co), (96, .int .i64 (m : Int)), (95, .slice (some ⟨pb, 0, none⟩) n co), (0, .slice a xs.length c), (1, .int .i64 (k : Int)), (2, .int .i64 (n : Int)), (3, .slice b zs.length d), (9, .slice a12 ((enc xs k n).length) c13), (11, .slice (some ⟨pb, 0, none⟩) n co), (13, .int .i64 (m : Int)), (14, .int .i64 (m : Int))] [(6, .qui), (7, .qui), (10, .qui), (11, .qui), (12, .qui)] [(6, .qui), (7, .qui), (10, .qui), (11, .qui), (12, .qui), (13, .seq), (14, .seq), (15, .seq)] Try_mixed (by as_aux_lemma => kernel_rfl) (by as_aux_lemma => kernel_rfl) (by as_aux_lemma => kernel_rfl) (by as_aux_lemma => kernel_rfl) ?_
                      have H := H.draw
                      generalize ({ w34 with drawn := w34.drawn + 1 } : World) = w97 at H ⊢
                      have hn99 : n = q.length := by omega
                      have hx98 : m < q.length := by omega
                      refine RW.indexW (κ := .qui) (d := some 101) (r := [(7, .qui), (10, .qui), (11, .qui), (12, .qui), (13, .seq), (14, .seq), (15, .seq)]) (T := 70) (e := 72) (m := 2) (ik := .i64) (ix := (m : Int)) (sh := pcS) (xs := q) (a := (some ⟨pb, 0, none⟩)) (len := n) (cap := co) (by as_aux_lemma => kernel_rfl) (by as_aux_lemma => kernel_rfl) rfl H m (by omega) hx98 hn99 ?_
                      intro b100 es101 ha102 hcell103 hr104
                      cases ha102
                      obtain ⟨a1q105, k1q105, rfl, hf106, hf107⟩ := pc_open hr104
                      have H := H.add (F := Rp (Shape.slice (Shape.bv .u8 8)) [.slice a1q105 ((q[m]).data.length) k1q105] ((q[m]).data)) hf107
                      refine RW.load (κ := .qui) (d := some 102) (r := [(10, .qui), (11, .qui), (12, .qui), (13, .seq), (14, .seq), (15, .seq)]) (T := 72) (b := pb) (o' := m * 2) (k := 0) (v := .agg #[.int .i64 ((q[m]).index), .slice a1q105 ((q[m]).data.length) k1q105]) (by as_aux_lemma => kernel_rfl) hcell103 rfl (by as_aux_lemma => kernel_rfl) ?_
                      have hn109 : n = q.length := by omega
                      have hx108 : m < q.length := by omega
                      refine RW.indexW (κ := .qui) (d := some 105) (r := [(11, .qui), (12, .qui), (13, .seq), (14, .seq), (15, .seq)]) (T := 70) (e := 72) (m := 2) (ik := .i64) (ix := (m : Int)) (sh := pcS) (xs := q) (a := (some ⟨pb, 0, none⟩)) (len := n) (cap := co) (by as_aux_lemma => kernel_rfl) (by as_aux_lemma => kernel_rfl) rfl H m (by omega) hx108 hn109 ?_
                      intro b110 es111 ha112 hcell113 hr114
                      cases ha112
                      obtain ⟨a1q115, k1q115, rfl, hf116, hf117⟩ := pc_open hr114
                      have H := H.add (F := Rp (Shape.slice (Shape.bv .u8 8)) [.slice a1q115 ((q[m]).data.length) k1q115] ((q[m]).data)) hf117
                      refine RW.load (κ := .qui) (d := some 106) (r := [(12, .qui), (13, .seq), (14, .seq), (15, .seq)]) (T := 72) (b := pb) (o' := m * 2) (k := 0) (v := .agg #[.int .i64 ((q[m]).index), .slice a1q105 ((q[m]).data.length) k1q105]) (by as_aux_lemma => kernel_rfl) hcell103 rfl (by as_aux_lemma => kernel_rfl) ?_
                      have hn119 : n = q.length := by omega
                      have hx118 : m < q.length := by omega
                      refine RW.indexW (κ := .qui) (d := some 107) (r := [(13, .seq), (14, .seq), (15, .seq)]) (T := 70) (e := 72) (m := 2) (ik := .i64) (ix := (m : Int)) (sh := pcS) (xs := q) (a := (some ⟨pb, 0, none⟩)) (len := n) (cap := co) (by as_aux_lemma => kernel_rfl) (by as_aux_lemma => kernel_rfl) rfl H m (by omega) hx118 hn119 ?_
                      intro b120 es121 ha122 hcell123 hr124
                      cases ha122
                      obtain ⟨a1q125, k1q125, rfl, hf126, hf127⟩ := pc_open hr124
                      have H := H.add (F := Rp (Shape.slice (Shape.bv .u8 8)) [.slice a1q125 ((q[m]).data.length) k1q125] ((q[m]).data)) hf127
                      refine RW.storeW (d := none) (r := [(14, .seq), (15, .seq)]) (e := 72) (m := 2) (b := pb) (k := m) (v := .agg #[.int .i64 ((q[m]).index), .slice a1q105 ((q[m]).data.length) k1q105]) (by as_aux_lemma => kernel_rfl) rfl (by as_aux_lemma => kernel_rfl) H rfl hx118 hn119 (q[m]) (pc_mk (Shape.i64_in (by first | omega | (simp <;> omega)) (by first | omega | (simp <;> omega))) (H.rp 2 rfl)) ?_
                      intro w128 H
                      have hn130 : n = (q.set m (q[m])).length := by rw [List.length_set]; omega
                      have hx129 : m < (q.set m (q[m])).length := by rw [List.length_set]; omega
                      refine RW.indexW (κ := .seq) (d := some 108) (r := [(15, .seq)]) (T := 70) (e := 72) (m := 2) (ik := .i64) (ix := (m : Int)) (sh := pcS) (xs := q.set m (q[m])) (a := (some ⟨pb, 0, none⟩)) (len := n) (cap := co) (by as_aux_lemma => kernel_rfl) (by as_aux_lemma => kernel_rfl) rfl H m (by omega) hx129 hn130 ?_
                      intro b131 es132 ha133 hcell134 hr135
                      cases ha133
                      obtain ⟨a1q136, k1q136, rfl, hf137, hf138⟩ := pc_open hr135
                      have H := H.add (F := Rp (Shape.slice (Shape.bv .u8 8)) [.slice a1q136 (((q.set m (q[m]))[m]).data.length) k1q136] (((q.set m (q[m]))[m]).data)) hf138
                      refine RW.storeW (d := none) (r := []) (e := 72) (m := 2) (b := pb) (k := m) (v := .agg #[.int .i64 ((q[m]).index), .slice a1q105 ((q[m]).data.length) k1q105]) (by as_aux_lemma => kernel_rfl) rfl (by as_aux_lemma => kernel_rfl) H rfl hx129 hn130 (q[m]) (pc_mk (Shape.i64_in (by first | omega | (simp <;> omega)) (by first | omega | (simp <;> omega))) (H.rp 3 rfl)) ?_
                      intro w139 H
                      have H := H.reW (ys := swapP q m m) (by unfold swapP; rw [pcAt_eq (show m < q.length by omega)]; try rw [pcAt_eq (show m < q.length by omega)])
                      refine RW.fin 0 [0, 1, 2, 3, 9, 11, 13] [(0, .slice a xs.length c), (1, .int .i64 (k : Int)), (2, .int .i64 (n : Int)), (3, .slice b zs.length d), (9, .slice a12 ((enc xs k n).length) c13), (11, .slice (some ⟨pb, 0, none⟩) n co), (13, .int .i64 (m : Int))] (by as_aux_lemma => kernel_rfl) ?_
                      have H := H.pick [5, 6, 7] (G' := [Rp (Shape.slice (Shape.slice (Shape.bv .u8 8))) [.slice a12 ((enc xs k n).length) c13] (enc xs k n), Rp (Shape.slice (Shape.bv .u8 8)) [.slice a xs.length c] xs, Rp (Shape.slice (Shape.int .i64)) [.slice b zs.length d] zs]) rfl
                      exact hJ95 _ H
                    · skip
                      refine WK.run 1 [0, 1, 2, 3, 9, 11, 13] [.code (cd Try.prog 8 [6, 0, 1, 0, 0, 2]), .inLoop (cd Try.prog 8 [6, 0, 1, 0, 0]), .inBlock 2, .code (cd Try.prog 8 [7])] [(0, .slice a xs.length c), (1, .int .i64 (k : Int)), (2, .int .i64 (n : Int)), (3, .slice b zs.length d), (9, .slice a12 ((enc xs k n).length) c13), (11, .slice (some ⟨pb, 0, none⟩) n co), (13, .int .i64 (m : Int))] (by as_aux_lemma => kernel_rfl) ?_
                      refine WK.reg1 (l := sq 0 3) (by as_aux_lemma => kernel_rfl) (by as_aux_lemma => kernel_rfl) ?_
                      refine RW.runP 1 [0, 1, 2, 3, 9, 11, 13, 71] (sq 1 3) [(0, .slice a xs.length c), (1, .int .i64 (k : Int)), (2, .int .i64 (n : Int)), (3, .slice b zs.length d), (9, .slice a12 ((enc xs k n).length) c13), (11, .slice (some ⟨pb, 0, none⟩) n co), (13, .int .i64 (m : Int)), (71, .int .i64 (m : Int))] (by as_aux_lemma => kernel_rfl) (by as_aux_lemma => kernel_rfl) ?_
                      refine RW.wr64 (κ := .seq) (d := some 72) (r := (sq 2 3)) (t := (m : Int) + 1) (by as_aux_lemma => kernel_rfl) (by omega) ?_
                      refine RW.fin 1 [0, 1, 2, 3, 9, 11, 13] [(0, .slice a xs.length c), (1, .int .i64 (k : Int)), (2, .int .i64 (n : Int)), (3, .slice b zs.length d), (9, .slice a12 ((enc xs k n).length) c13), (11, .slice (some ⟨pb, 0, none⟩) n co), (13, .int .i64 ((m : Int) + 1))] (by as_aux_lemma => kernel_rfl) ?_
                      exact WK.back (hback33 (m + 1, swapP q m m) _ ⟨H, by omega, (swapP_perm (by omega) (by omega)).trans hqp⟩ (by simp only []; omega)) (by as_aux_lemma => kernel_rfl)
                · skip
                  replace h36 := of_decide_eq_false h36
                  refine RW.fin 6 [0, 1, 2, 3, 9, 11, 13, 14, 84] [(0, .slice a xs.length c), (1, .int .i64 (k : Int)), (2, .int .i64 (n : Int)), (3, .slice b zs.length d), (9, .slice a12 ((enc xs k n).length) c13), (11, .slice (some ⟨pb, 0, none⟩) n co), (13, .int .i64 (m : Int)), (14, .int .i64 (m : Int)), (84, .bool false)] (by as_aux_lemma => kernel_rfl) ?_
                  refine WK.run 2 [0, 1, 2, 3, 9, 11, 13, 14] [.code (cd Try.prog 8 [6, 0, 1, 0, 0, 1, 0, 0, 2]), .inBlock 3, .code (cd Try.prog 8 [6, 0, 1, 0, 0, 2]), .inLoop (cd Try.prog 8 [6, 0, 1, 0, 0]), .inBlock 2, .code (cd Try.prog 8 [7])] [(0, .slice a xs.length c), (1, .int .i64 (k : Int)), (2, .int .i64 (n : Int)), (3, .slice b zs.length d), (9, .slice a12 ((enc xs k n).length) c13), (11, .slice (some ⟨pb, 0, none⟩) n co), (13, .int .i64 (m : Int)), (14, .int .i64 (m : Int))] (by as_aux_lemma => kernel_rfl) ?_
                  refine WK.joinW (fun w_ => Hp w S [] [] [⟨pcS, 72, .slice (some ⟨pb, 0, none⟩) n co, swapP q m m⟩] [Rp (Shape.slice (Shape.slice (Shape.bv .u8 8))) [.slice a12 ((enc xs k n).length) c13] (enc xs k n), Rp (Shape.slice (Shape.bv .u8 8)) [.slice a xs.length c] xs, Rp (Shape.slice (Shape.int .i64)) [.slice b zs.length d] zs] w_) [(0, .slice a xs.length c), (1, .int .i64 (k : Int)), (2, .int .i64 (n : Int)), (3, .slice b zs.length d), (9, .slice a12 ((enc xs k n).length) c13), (11, .slice (some ⟨pb, 0, none⟩) n co), (13, .int .i64 (m : Int))] [.inBlock 3, .code (cd Try.prog 8 [6, 0, 1, 0, 0, 2]), .inLoop (cd Try.prog 8 [6, 0, 1, 0, 0]), .inBlock 2, .code (cd Try.prog 8 [7])] (fun hJ140 => ?_) (fun w141 H => ?_)
                  · skip
                    refine WK.drawP1 13 [0, 1, 2, 3, 4, 5, 8, 9] [(104, .int .i64 (m : Int)), (103, .slice (some ⟨pb, 0, none⟩) n co), (100, .int .i64 (m : Int)), (99, .slice (some ⟨pb, 0, none⟩) n co), (98, .int .i64 (m : Int)), (97, .slice (some ⟨pb, 0, none⟩) n co), (96, .int .i64 (m : Int)), (95, .slice (some ⟨pb, 0, none⟩) n co), (0, .slice a xs.length c), (1, .int .i64 (k : Int)), (2, .int .i64 (n : Int)), (3, .slice b zs.length d), (9, .slice a12 ((enc xs k n).length) c13), (11, .slice (some ⟨pb, 0, none⟩) n co), (13, .int .i64 (m : Int)), (14, .int .i64 (m : Int))] [(6, .qui), (7, .qui), (10, .qui), (11, .qui), (12, .qui)] [(6, .qui), (7, .qui), (10, .qui), (11, .qui), (12, .qui), (13, .seq), (14, .seq), (15, .seq)] Try_mixed (by as_aux_lemma => kernel_rfl) (by as_aux_lemma => kernel_rfl) (by as_aux_lemma => kernel_rfl) (by as_aux_lemma => kernel_rfl) ?_
                    have H := H.draw
                    generalize ({ w34 with drawn := w34.drawn + 1 } : World) = w142 at H ⊢
                    have hn144 : n = q.length := by omega
                    have hx143 : m < q.length := by omega
                    refine RW.indexW (κ := .qui) (d := some 101) (r := [(7, .qui), (10, .qui), (11, .qui), (12, .qui), (13, .seq), (14, .seq), (15, .seq)]) (T := 70) (e := 72) (m := 2) (ik := .i64) (ix := (m : Int)) (sh := pcS) (xs := q) (a := (some ⟨pb, 0, none⟩)) (len := n) (cap := co) (by as_aux_lemma => kernel_rfl) (by as_aux_lemma => kernel_rfl) rfl H m (by omega) hx143 hn144 ?_
                    intro b145 es146 ha147 hcell148 hr149
                    cases ha147
                    obtain ⟨a1q150, k1q150, rfl, hf151, hf152⟩ := pc_open hr149
                    have H := H.add (F := Rp (Shape.slice (Shape.bv .u8 8)) [.slice a1q150 ((q[m]).data.length) k1q150] ((q[m]).data)) hf152
                    refine RW.load (κ := .qui) (d := some 102) (r := [(10, .qui), (11, .qui), (12, .qui), (13, .seq), (14, .seq), (15, .seq)]) (T := 72) (b := pb) (o' := m * 2) (k := 0) (v := .agg #[.int .i64 ((q[m]).index), .slice a1q150 ((q[m]).data.length) k1q150]) (by as_aux_lemma => kernel_rfl) hcell148 rfl (by as_aux_lemma => kernel_rfl) ?_
                    have hn154 : n = q.length := by omega
                    have hx153 : m < q.length := by omega
                    refine RW.indexW (κ := .qui) (d := some 105) (r := [(11, .qui), (12, .qui), (13, .seq), (14, .seq), (15, .seq)]) (T := 70) (e := 72) (m := 2) (ik := .i64) (ix := (m : Int)) (sh := pcS) (xs := q) (a := (some ⟨pb, 0, none⟩)) (len := n) (cap := co) (by as_aux_lemma => kernel_rfl) (by as_aux_lemma => kernel_rfl) rfl H m (by omega) hx153 hn154 ?_
                    intro b155 es156 ha157 hcell158 hr159
                    cases ha157
                    obtain ⟨a1q160, k1q160, rfl, hf161, hf162⟩ := pc_open hr159
                    have H := H.add (F := Rp (Shape.slice (Shape.bv .u8 8)) [.slice a1q160 ((q[m]).data.length) k1q160] ((q[m]).data)) hf162
                    refine RW.load (κ := .qui) (d := some 106) (r := [(12, .qui), (13, .seq), (14, .seq), (15, .seq)]) (T := 72) (b := pb) (o' := m * 2) (k := 0) (v := .agg #[.int .i64 ((q[m]).index), .slice a1q150 ((q[m]).data.length) k1q150]) (by as_aux_lemma => kernel_rfl) hcell148 rfl (by as_aux_lemma => kernel_rfl) ?_
                    have hn164 : n = q.length := by omega
                    have hx163 : m < q.length := by omega
                    refine RW.indexW (κ := .qui) (d := some 107) (r := [(13, .seq), (14, .seq), (15, .seq)]) (T := 70) (e := 72) (m := 2) (ik := .i64) (ix := (m : Int)) (sh := pcS) (xs := q) (a := (some ⟨pb, 0, none⟩)) (len := n) (cap := co) (by as_aux_lemma => kernel_rfl) (by as_aux_lemma => kernel_rfl) rfl H m (by omega) hx163 hn164 ?_
                    intro b165 es166 ha167 hcell168 hr169
                    cases ha167
                    obtain ⟨a1q170, k1q170, rfl, hf171, hf172⟩ := pc_open hr169
                    have H := H.add (F := Rp (Shape.slice (Shape.bv .u8 8)) [.slice a1q170 ((q[m]).data.length) k1q170] ((q[m]).data)) hf172
                    refine RW.storeW (d := none) (r := [(14, .seq), (15, .seq)]) (e := 72) (m := 2) (b := pb) (k := m) (v := .agg #[.int .i64 ((q[m]).index), .slice a1q150 ((q[m]).data.length) k1q150]) (by as_aux_lemma => kernel_rfl) rfl (by as_aux_lemma => kernel_rfl) H rfl hx163 hn164 (q[m]) (pc_mk (Shape.i64_in (by first | omega | (simp <;> omega)) (by first | omega | (simp <;> omega))) (H.rp 2 rfl)) ?_
                    intro w173 H
                    have hn175 : n = (q.set m (q[m])).length := by rw [List.length_set]; omega
                    have hx174 : m < (q.set m (q[m])).length := by rw [List.length_set]; omega
                    refine RW.indexW (κ := .seq) (d := some 108) (r := [(15, .seq)]) (T := 70) (e := 72) (m := 2) (ik := .i64) (ix := (m : Int)) (sh := pcS) (xs := q.set m (q[m])) (a := (some ⟨pb, 0, none⟩)) (len := n) (cap := co) (by as_aux_lemma => kernel_rfl) (by as_aux_lemma => kernel_rfl) rfl H m (by omega) hx174 hn175 ?_
                    intro b176 es177 ha178 hcell179 hr180
                    cases ha178
                    obtain ⟨a1q181, k1q181, rfl, hf182, hf183⟩ := pc_open hr180
                    have H := H.add (F := Rp (Shape.slice (Shape.bv .u8 8)) [.slice a1q181 (((q.set m (q[m]))[m]).data.length) k1q181] (((q.set m (q[m]))[m]).data)) hf183
                    refine RW.storeW (d := none) (r := []) (e := 72) (m := 2) (b := pb) (k := m) (v := .agg #[.int .i64 ((q[m]).index), .slice a1q150 ((q[m]).data.length) k1q150]) (by as_aux_lemma => kernel_rfl) rfl (by as_aux_lemma => kernel_rfl) H rfl hx174 hn175 (q[m]) (pc_mk (Shape.i64_in (by first | omega | (simp <;> omega)) (by first | omega | (simp <;> omega))) (H.rp 3 rfl)) ?_
                    intro w184 H
                    have H := H.reW (ys := swapP q m m) (by unfold swapP; rw [pcAt_eq (show m < q.length by omega)]; try rw [pcAt_eq (show m < q.length by omega)])
                    refine RW.fin 0 [0, 1, 2, 3, 9, 11, 13] [(0, .slice a xs.length c), (1, .int .i64 (k : Int)), (2, .int .i64 (n : Int)), (3, .slice b zs.length d), (9, .slice a12 ((enc xs k n).length) c13), (11, .slice (some ⟨pb, 0, none⟩) n co), (13, .int .i64 (m : Int))] (by as_aux_lemma => kernel_rfl) ?_
                    have H := H.pick [4, 5, 6] (G' := [Rp (Shape.slice (Shape.slice (Shape.bv .u8 8))) [.slice a12 ((enc xs k n).length) c13] (enc xs k n), Rp (Shape.slice (Shape.bv .u8 8)) [.slice a xs.length c] xs, Rp (Shape.slice (Shape.int .i64)) [.slice b zs.length d] zs]) rfl
                    exact hJ140 _ H
                  · skip
                    refine WK.run 1 [0, 1, 2, 3, 9, 11, 13] [.code (cd Try.prog 8 [6, 0, 1, 0, 0, 2]), .inLoop (cd Try.prog 8 [6, 0, 1, 0, 0]), .inBlock 2, .code (cd Try.prog 8 [7])] [(0, .slice a xs.length c), (1, .int .i64 (k : Int)), (2, .int .i64 (n : Int)), (3, .slice b zs.length d), (9, .slice a12 ((enc xs k n).length) c13), (11, .slice (some ⟨pb, 0, none⟩) n co), (13, .int .i64 (m : Int))] (by as_aux_lemma => kernel_rfl) ?_
                    refine WK.reg1 (l := sq 0 3) (by as_aux_lemma => kernel_rfl) (by as_aux_lemma => kernel_rfl) ?_
                    refine RW.runP 1 [0, 1, 2, 3, 9, 11, 13, 71] (sq 1 3) [(0, .slice a xs.length c), (1, .int .i64 (k : Int)), (2, .int .i64 (n : Int)), (3, .slice b zs.length d), (9, .slice a12 ((enc xs k n).length) c13), (11, .slice (some ⟨pb, 0, none⟩) n co), (13, .int .i64 (m : Int)), (71, .int .i64 (m : Int))] (by as_aux_lemma => kernel_rfl) (by as_aux_lemma => kernel_rfl) ?_
                    refine RW.wr64 (κ := .seq) (d := some 72) (r := (sq 2 3)) (t := (m : Int) + 1) (by as_aux_lemma => kernel_rfl) (by omega) ?_
                    refine RW.fin 1 [0, 1, 2, 3, 9, 11, 13] [(0, .slice a xs.length c), (1, .int .i64 (k : Int)), (2, .int .i64 (n : Int)), (3, .slice b zs.length d), (9, .slice a12 ((enc xs k n).length) c13), (11, .slice (some ⟨pb, 0, none⟩) n co), (13, .int .i64 ((m : Int) + 1))] (by as_aux_lemma => kernel_rfl) ?_
                    exact WK.back (hback33 (m + 1, swapP q m m) _ ⟨H, by omega, (swapP_perm (by omega) (by omega)).trans hqp⟩ (by simp only []; omega)) (by as_aux_lemma => kernel_rfl)
              · skip
                replace h35 := of_decide_eq_false h35
                refine WK.run 2 [0, 1, 2, 9, 11] [.code (cd Try.prog 8 [7, 0]), .code (cd Try.prog 8 [8])] [(0, .slice a xs.length c), (1, .int .i64 (k : Int)), (2, .int .i64 (n : Int)), (9, .slice a12 ((enc xs k n).length) c13), (11, .slice (some ⟨pb, 0, none⟩) n co)] (by as_aux_lemma => kernel_rfl) ?_
                refine WK.reg1 (l := sq 0 13) (by as_aux_lemma => kernel_rfl) (by as_aux_lemma => kernel_rfl) ?_
                refine RW.runP 2 [0, 1, 2, 9, 11, 110, 111] (sq 2 13) [(0, .slice a xs.length c), (1, .int .i64 (k : Int)), (2, .int .i64 (n : Int)), (9, .slice a12 ((enc xs k n).length) c13), (11, .slice (some ⟨pb, 0, none⟩) n co), (110, .slice (some ⟨pb, 0, none⟩) n co), (111, .int .i64 (k : Int))] (by as_aux_lemma => kernel_rfl) (by as_aux_lemma => kernel_rfl) ?_
                have H : Hp w S [] [] [] [Rp (Shape.slice pcS) [.slice (some ⟨pb, 0, none⟩) n co] q, Rp (Shape.slice (Shape.slice (Shape.bv .u8 8))) [.slice a12 ((enc xs k n).length) c13] (enc xs k n), Rp (Shape.slice (Shape.bv .u8 8)) [.slice a xs.length c] xs, Rp (Shape.slice (Shape.int .i64)) [.slice b zs.length d] zs] _ := H.freezeW 0 rfl
                refine RW.slice (κ := .seq) (d := some 112) (r := (sq 3 13)) (T := 70) (e := 72) (sh := pcS) (a := (some ⟨pb, 0, none⟩)) (len := n) (cap := co) (zs := (q.take k)) (lv := none) (hv := (some (.int .i64 (k : Int)))) (by as_aux_lemma => kernel_rfl) (by as_aux_lemma => kernel_rfl) H 0 rfl 0 k .nil (.mk (by omega)) (by omega) (by omega) (by rw [List.drop_zero]) ?_
                intro a185 H
                refine RW.runP 4 [0, 1, 2, 9, 11, 112, 114, 115, 116] (sq 7 13) [(0, .slice a xs.length c), (1, .int .i64 (k : Int)), (2, .int .i64 (n : Int)), (9, .slice a12 ((enc xs k n).length) c13), (11, .slice (some ⟨pb, 0, none⟩) n co), (112, .slice a185 ((q.take k).length) co), (114, .int .i64 ((xs.length : Nat) : Int)), (115, .int .i64 (k : Int)), (116, .int .i64 (n : Int))] (by as_aux_lemma => kernel_rfl) (by as_aux_lemma => kernel_rfl) ?_
                have hof := (pcs_of.perm hqp).take k
                have hlk187 : k ≤ ((q.take k)).length := by rw [List.length_take]; omega
                refine RW.call (κ := .seq) (d := some 117) (r := (sq 8 13)) (g := 31) (args := #[.slice a185 ((q.take k).length) co, .int .i64 ((xs.length : Nat) : Int), .int .i64 (k : Int), .int .i64 (n : Int)]) (by as_aux_lemma => kernel_rfl) (nofun) (decode_ok (S := Av S w [] (idsOf [] [])) (ps := (q.take k)) (H.rp 0 rfl) (size := xs.length) (k := k) (n := n) (by omega) hk hkn (by omega) (hof.ok hk hkn) hlk187 (any_reg hlk187 hkn (by omega) (hof.ok hk hkn))) ?_
                rintro _ w186 hE190 ⟨a188, c189, ys192, rfl, hys193, hord194, hr191⟩
                rw [objL_of (hof.perm hys193) hk (by rw [hys193.length_eq]; exact hlk187) hkn (by omega)] at hr191 ⊢
                have H := H.addN hE190 (F := Rp (Shape.slice (Shape.bv .u8 8)) [.slice a188 xs.length c189] xs) hr191
                refine RW.fin 5 [0, 1, 2, 9, 11, 15, 16] [(0, .slice a xs.length c), (1, .int .i64 (k : Int)), (2, .int .i64 (n : Int)), (9, .slice a12 ((enc xs k n).length) c13), (11, .slice (some ⟨pb, 0, none⟩) n co), (15, .slice a188 xs.length c189), (16, .int .i64 0)] (by as_aux_lemma => kernel_rfl) ?_
                refine WK.run 2 [0, 1, 2, 9, 11, 15, 16] [.code (cd Try.prog 8 [8, 0, 0]), .code (cd Try.prog 8 [8, 0, 1]), .code (cd Try.prog 8 [9])] [(0, .slice a xs.length c), (1, .int .i64 (k : Int)), (2, .int .i64 (n : Int)), (9, .slice a12 ((enc xs k n).length) c13), (11, .slice (some ⟨pb, 0, none⟩) n co), (15, .slice a188 xs.length c189), (16, .int .i64 0)] (by as_aux_lemma => kernel_rfl) ?_
                refine WK.reg1 (l := sq 0 8) (by as_aux_lemma => kernel_rfl) (by as_aux_lemma => kernel_rfl) ?_
                refine RW.runP 5 [0, 1, 2, 9, 11, 122, 123, 124] (sq 5 8) [(0, .slice a xs.length c), (1, .int .i64 (k : Int)), (2, .int .i64 (n : Int)), (9, .slice a12 ((enc xs k n).length) c13), (11, .slice (some ⟨pb, 0, none⟩) n co), (122, .bool false), (123, .slice a188 xs.length c189), (124, .slice a xs.length c)] (by as_aux_lemma => kernel_rfl) (by as_aux_lemma => kernel_rfl) ?_
                refine RW.call (κ := .seq) (d := some 125) (r := (sq 6 8)) (g := 30) (args := #[.slice a188 xs.length c189, .slice a xs.length c]) (by as_aux_lemma => kernel_rfl) (nofun) (same01_spec (S := Av S w [] (idsOf [] [])) (xs := xs) (ys := xs) (H.rp 0 rfl) (H.rp 4 rfl) (rfl)) ?_
                rintro _ w195 hE196 rfl
                have H := H.ext hE196
                refine RW.fin 2 [0, 1, 2, 9, 11, 127] [(0, .slice a xs.length c), (1, .int .i64 (k : Int)), (2, .int .i64 (n : Int)), (9, .slice a12 ((enc xs k n).length) c13), (11, .slice (some ⟨pb, 0, none⟩) n co), (127, .bool false)] (by as_aux_lemma => kernel_rfl) ?_
                refine WK.run 6 [0, 1, 2, 9, 11, 17] [.code (cd Try.prog 8 [9, 0, 1, 0]), .inBlock 4, .code (cd Try.prog 8 [10])] [(0, .slice a xs.length c), (1, .int .i64 (k : Int)), (2, .int .i64 (n : Int)), (9, .slice a12 ((enc xs k n).length) c13), (11, .slice (some ⟨pb, 0, none⟩) n co), (17, .int .i64 0)] (by as_aux_lemma => kernel_rfl) ?_
                have H := H.pick [0, 2, 3, 4, 5] (G' := [Rp (Shape.slice (Shape.bv .u8 8)) [.slice a188 xs.length c189] xs, Rp (Shape.slice pcS) [.slice (some ⟨pb, 0, none⟩) n co] q, Rp (Shape.slice (Shape.slice (Shape.bv .u8 8))) [.slice a12 ((enc xs k n).length) c13] (enc xs k n), Rp (Shape.slice (Shape.bv .u8 8)) [.slice a xs.length c] xs, Rp (Shape.slice (Shape.int .i64)) [.slice b zs.length d] zs]) rfl
                refine WK.loop (α := Nat) (b := cd Try.prog 8 [9, 0, 1, 0, 0]) (by as_aux_lemma => kernel_rfl) (fun y => [(0, .slice a xs.length c), (1, .int .i64 (k : Int)), (2, .int .i64 (n : Int)), (9, .slice a12 ((enc xs k n).length) c13), (11, .slice (some ⟨pb, 0, none⟩) n co), (17, .int .i64 (y : Int))]) (fun y w' => Hp w S [] [] [] [Rp (Shape.slice (Shape.bv .u8 8)) [.slice a188 xs.length c189] xs, Rp (Shape.slice pcS) [.slice (some ⟨pb, 0, none⟩) n co] q, Rp (Shape.slice (Shape.slice (Shape.bv .u8 8))) [.slice a12 ((enc xs k n).length) c13] (enc xs k n), Rp (Shape.slice (Shape.bv .u8 8)) [.slice a xs.length c] xs, Rp (Shape.slice (Shape.int .i64)) [.slice b zs.length d] zs] w' ∧ y ≤ n) (fun y => n - y) 0 ⟨H, Nat.zero_le _⟩ (rfl) ?_
                rintro y w198 ⟨H, hinv2⟩ hback197
                refine WK.run 3 [0, 1, 2, 9, 11, 17, 130] [.code (cd Try.prog 8 [9, 0, 1, 0, 0, 0, 1]), .code (cd Try.prog 8 [9, 0, 1, 0, 0, 1]), .inLoop (cd Try.prog 8 [9, 0, 1, 0, 0]), .inBlock 4, .code (cd Try.prog 8 [10])] [(0, .slice a xs.length c), (1, .int .i64 (k : Int)), (2, .int .i64 (n : Int)), (9, .slice a12 ((enc xs k n).length) c13), (11, .slice (some ⟨pb, 0, none⟩) n co), (17, .int .i64 (y : Int)), (130, .bool (decide (((y : Int) : Int) < (n : Int))))] (by as_aux_lemma => kernel_rfl) ?_
                refine WK.cond1 (decide (((y : Int) : Int) < (n : Int))) (by as_aux_lemma => kernel_rfl) (by as_aux_lemma => kernel_rfl) (fun h199 => ?_) (fun h199 => ?_)
                · skip
                  replace h199 := of_decide_eq_true h199
                  refine WK.run 4 [0, 1, 2, 9, 11, 17] [.code (cd Try.prog 8 [9, 0, 1, 0, 0, 1, 0, 0, 0]), .code (cd Try.prog 8 [9, 0, 1, 0, 0, 1, 0, 0, 1]), .inBlock 5, .code (cd Try.prog 8 [9, 0, 1, 0, 0, 2]), .inLoop (cd Try.prog 8 [9, 0, 1, 0, 0]), .inBlock 4, .code (cd Try.prog 8 [10])] [(0, .slice a xs.length c), (1, .int .i64 (k : Int)), (2, .int .i64 (n : Int)), (9, .slice a12 ((enc xs k n).length) c13), (11, .slice (some ⟨pb, 0, none⟩) n co), (17, .int .i64 (y : Int))] (by as_aux_lemma => kernel_rfl) ?_
                  refine WK.reg1 (l := sq 0 14) (by as_aux_lemma => kernel_rfl) (by as_aux_lemma => kernel_rfl) ?_
                  refine RW.runP 2 [0, 1, 2, 9, 11, 17, 134, 135] (sq 2 14) [(0, .slice a xs.length c), (1, .int .i64 (k : Int)), (2, .int .i64 (n : Int)), (9, .slice a12 ((enc xs k n).length) c13), (11, .slice (some ⟨pb, 0, none⟩) n co), (17, .int .i64 (y : Int)), (134, .slice (some ⟨pb, 0, none⟩) n co), (135, .int .i64 (k : Int))] (by as_aux_lemma => kernel_rfl) (by as_aux_lemma => kernel_rfl) ?_
                  refine RW.slice (κ := .seq) (d := some 136) (r := (sq 3 14)) (T := 70) (e := 72) (sh := pcS) (a := (some ⟨pb, 0, none⟩)) (len := n) (cap := co) (zs := (q.take k)) (lv := none) (hv := (some (.int .i64 (k : Int)))) (by as_aux_lemma => kernel_rfl) (by as_aux_lemma => kernel_rfl) H 1 rfl 0 k .nil (.mk (by omega)) (by omega) (by omega) (by rw [List.drop_zero]) ?_
                  intro a200 H
                  refine RW.runP 5 [0, 1, 2, 9, 11, 17, 136, 138, 139, 140, 141] (sq 8 14) [(0, .slice a xs.length c), (1, .int .i64 (k : Int)), (2, .int .i64 (n : Int)), (9, .slice a12 ((enc xs k n).length) c13), (11, .slice (some ⟨pb, 0, none⟩) n co), (17, .int .i64 (y : Int)), (136, .slice a200 ((q.take k).length) co), (138, .int .i64 ((xs.length : Nat) : Int)), (139, .int .i64 (k : Int)), (140, .int .i64 (n : Int)), (141, .int .i64 (y : Int))] (by as_aux_lemma => kernel_rfl) (by as_aux_lemma => kernel_rfl) ?_
                  have hlk202 : k ≤ ((q.take k)).length := by rw [List.length_take]; omega
                  refine RW.call (κ := .seq) (d := some 142) (r := (sq 9 14)) (g := 32) (args := #[.slice a200 ((q.take k).length) co, .int .i64 ((xs.length : Nat) : Int), .int .i64 (k : Int), .int .i64 (n : Int), .int .i64 (y : Int)]) (by as_aux_lemma => kernel_rfl) (nofun) (rebuild_ok (S := Av S w [] (idsOf [] [])) (ps := (q.take k)) (H.rp 0 rfl) (size := xs.length) (k := k) (n := n) (by omega) hk hkn (by omega) (hof.ok hk hkn) hlk202 (any_reg hlk202 hkn (by omega) (hof.ok hk hkn)) (x := y) (by omega)) ?_
                  rintro _ w201 hE205 ⟨a203, c204, ys207, rfl, hys208, hord209, hr206⟩
                  rw [rebL_of (hof.perm hys208) hk (by rw [hys208.length_eq]; exact hlk202) hkn (by omega) (by omega)] at hr206 ⊢
                  have H := H.addN hE205 (F := Rp (Shape.slice (Shape.bv .u8 8)) [.slice a203 ((rowAt (enc xs k n) y).length) c204] (rowAt (enc xs k n) y)) hr206
                  refine RW.fin 5 [0, 1, 2, 9, 11, 17, 18, 19] [(0, .slice a xs.length c), (1, .int .i64 (k : Int)), (2, .int .i64 (n : Int)), (9, .slice a12 ((enc xs k n).length) c13), (11, .slice (some ⟨pb, 0, none⟩) n co), (17, .int .i64 (y : Int)), (18, .slice a203 ((rowAt (enc xs k n) y).length) c204), (19, .int .i64 0)] (by as_aux_lemma => kernel_rfl) ?_
                  refine WK.run 1 [0, 1, 2, 9, 11, 17, 18, 19] [.code (cd Try.prog 8 [9, 0, 1, 0, 0, 1, 0, 0, 1, 0]), .code (cd Try.prog 8 [9, 0, 1, 0, 0, 1, 0, 0, 2]), .inBlock 5, .code (cd Try.prog 8 [9, 0, 1, 0, 0, 2]), .inLoop (cd Try.prog 8 [9, 0, 1, 0, 0]), .inBlock 4, .code (cd Try.prog 8 [10])] [(0, .slice a xs.length c), (1, .int .i64 (k : Int)), (2, .int .i64 (n : Int)), (9, .slice a12 ((enc xs k n).length) c13), (11, .slice (some ⟨pb, 0, none⟩) n co), (17, .int .i64 (y : Int)), (18, .slice a203 ((rowAt (enc xs k n) y).length) c204), (19, .int .i64 0)] (by as_aux_lemma => kernel_rfl) ?_
                  refine WK.reg1 (l := sq 0 11) (by as_aux_lemma => kernel_rfl) (by as_aux_lemma => kernel_rfl) ?_
                  refine RW.runP 6 [0, 1, 2, 9, 11, 17, 147, 148, 149, 150] (sq 6 11) [(0, .slice a xs.length c), (1, .int .i64 (k : Int)), (2, .int .i64 (n : Int)), (9, .slice a12 ((enc xs k n).length) c13), (11, .slice (some ⟨pb, 0, none⟩) n co), (17, .int .i64 (y : Int)), (147, .bool false), (148, .slice a203 ((rowAt (enc xs k n) y).length) c204), (149, .slice a12 ((enc xs k n).length) c13), (150, .int .i64 (y : Int))] (by as_aux_lemma => kernel_rfl) (by as_aux_lemma => kernel_rfl) ?_
                  have hx210 : y < (enc xs k n).length := by omega
                  refine RW.index (κ := .seq) (d := some 151) (r := (sq 7 11)) (T := 29) (e := 23) (ik := .i64) (ix := (y : Int)) (sh := (Shape.slice (Shape.bv .u8 8))) (x := (enc xs k n)[y]) (by as_aux_lemma => kernel_rfl) (by as_aux_lemma => kernel_rfl) H 4 rfl y (by omega) (List.getElem?_eq_getElem hx210) ?_
                  intro b211 o212 es213 hr214 H
                  obtain ⟨a215, k216, rfl⟩ := Shape.slice_form' hr214
                  have H := H.add (F := Rp (Shape.slice (Shape.bv .u8 8)) [.slice a215 (((enc xs k n)[y]).length) k216] ((enc xs k n)[y])) hr214
                  refine RW.load (κ := .seq) (d := some 152) (r := (sq 8 11)) (T := 23) (b := b211) (o' := o212) (k := 0) (v := .slice a215 (((enc xs k n)[y]).length) k216) (by as_aux_lemma => kernel_rfl) (H.fc 1 rfl) rfl (by as_aux_lemma => kernel_rfl) ?_
                  refine RW.call (κ := .seq) (d := some 153) (r := (sq 9 11)) (g := 30) (args := #[.slice a203 ((rowAt (enc xs k n) y).length) c204, .slice a215 (((enc xs k n)[y]).length) k216]) (by as_aux_lemma => kernel_rfl) (nofun) (same01_spec (S := Av S w [] (idsOf [] [])) (xs := (rowAt (enc xs k n) y)) (ys := (enc xs k n)[y]) (H.rp 2 rfl) (H.rp 0 rfl) (rowAt_eq (by omega))) ?_
                  rintro _ w217 hE218 rfl
                  have H := H.ext hE218
                  refine RW.fin 2 [0, 1, 2, 9, 11, 17, 155] [(0, .slice a xs.length c), (1, .int .i64 (k : Int)), (2, .int .i64 (n : Int)), (9, .slice a12 ((enc xs k n).length) c13), (11, .slice (some ⟨pb, 0, none⟩) n co), (17, .int .i64 (y : Int)), (155, .bool false)] (by as_aux_lemma => kernel_rfl) ?_
                  refine WK.run 3 [0, 1, 2, 9, 11, 17] [.code (cd Try.prog 8 [9, 0, 1, 0, 0, 2]), .inLoop (cd Try.prog 8 [9, 0, 1, 0, 0]), .inBlock 4, .code (cd Try.prog 8 [10])] [(0, .slice a xs.length c), (1, .int .i64 (k : Int)), (2, .int .i64 (n : Int)), (9, .slice a12 ((enc xs k n).length) c13), (11, .slice (some ⟨pb, 0, none⟩) n co), (17, .int .i64 (y : Int))] (by as_aux_lemma => kernel_rfl) ?_
                  refine WK.reg1 (l := sq 0 3) (by as_aux_lemma => kernel_rfl) (by as_aux_lemma => kernel_rfl) ?_
                  refine RW.runP 1 [0, 1, 2, 9, 11, 17, 131] (sq 1 3) [(0, .slice a xs.length c), (1, .int .i64 (k : Int)), (2, .int .i64 (n : Int)), (9, .slice a12 ((enc xs k n).length) c13), (11, .slice (some ⟨pb, 0, none⟩) n co), (17, .int .i64 (y : Int)), (131, .int .i64 (y : Int))] (by as_aux_lemma => kernel_rfl) (by as_aux_lemma => kernel_rfl) ?_
                  refine RW.wr64 (κ := .seq) (d := some 132) (r := (sq 2 3)) (t := (y : Int) + 1) (by as_aux_lemma => kernel_rfl) (by omega) ?_
                  refine RW.fin 1 [0, 1, 2, 9, 11, 17] [(0, .slice a xs.length c), (1, .int .i64 (k : Int)), (2, .int .i64 (n : Int)), (9, .slice a12 ((enc xs k n).length) c13), (11, .slice (some ⟨pb, 0, none⟩) n co), (17, .int .i64 ((y : Int) + 1))] (by as_aux_lemma => kernel_rfl) ?_
                  have H := H.pick [4, 5, 6, 7, 8] (G' := [Rp (Shape.slice (Shape.bv .u8 8)) [.slice a188 xs.length c189] xs, Rp (Shape.slice pcS) [.slice (some ⟨pb, 0, none⟩) n co] q, Rp (Shape.slice (Shape.slice (Shape.bv .u8 8))) [.slice a12 ((enc xs k n).length) c13] (enc xs k n), Rp (Shape.slice (Shape.bv .u8 8)) [.slice a xs.length c] xs, Rp (Shape.slice (Shape.int .i64)) [.slice b zs.length d] zs]) rfl
                  exact WK.back (hback197 (y + 1) _ ⟨H, by omega⟩ (by first | omega | (simp only []; omega))) (by as_aux_lemma => kernel_rfl)
                · skip
                  replace h199 := of_decide_eq_false h199
                  refine WK.run 2 [0, 1, 2, 11] [.code (cd Try.prog 8 [10, 0]), .code (cd Try.prog 8 [11])] [(0, .slice a xs.length c), (1, .int .i64 (k : Int)), (2, .int .i64 (n : Int)), (11, .slice (some ⟨pb, 0, none⟩) n co)] (by as_aux_lemma => kernel_rfl) ?_
                  refine WK.reg1 (l := sq 0 14) (by as_aux_lemma => kernel_rfl) (by as_aux_lemma => kernel_rfl) ?_
                  refine RW.runP 2 [0, 1, 2, 157, 158] (sq 2 14) [(0, .slice a xs.length c), (1, .int .i64 (k : Int)), (2, .int .i64 (n : Int)), (157, .slice (some ⟨pb, 0, none⟩) n co), (158, .int .i64 (k : Int))] (by as_aux_lemma => kernel_rfl) (by as_aux_lemma => kernel_rfl) ?_
                  refine RW.wr64 (κ := .seq) (d := some 159) (r := (sq 3 14)) (t := (k : Int) - 1) (by as_aux_lemma => kernel_rfl) (by omega) ?_
                  refine RW.slice (κ := .seq) (d := some 160) (r := (sq 4 14)) (T := 70) (e := 72) (sh := pcS) (a := (some ⟨pb, 0, none⟩)) (len := n) (cap := co) (zs := (q.take (k - 1))) (lv := none) (hv := (some (.int .i64 ((k : Int) - 1)))) (by as_aux_lemma => kernel_rfl) (by as_aux_lemma => kernel_rfl) H 1 rfl 0 (k - 1) .nil (.mk (by omega)) (by omega) (by omega) (by rw [List.drop_zero]) ?_
                  intro a219 H
                  refine RW.runP 4 [160, 162, 163, 164] (sq 8 14) [(160, .slice a219 ((q.take (k - 1)).length) co), (162, .int .i64 ((xs.length : Nat) : Int)), (163, .int .i64 (k : Int)), (164, .int .i64 (n : Int))] (by as_aux_lemma => kernel_rfl) (by as_aux_lemma => kernel_rfl) ?_
                  have hof2 := (pcs_of.perm hqp).take (k - 1)
                  refine RW.call (κ := .seq) (d := some 165) (r := (sq 9 14)) (g := 31) (args := #[.slice a219 ((q.take (k - 1)).length) co, .int .i64 ((xs.length : Nat) : Int), .int .i64 (k : Int), .int .i64 (n : Int)]) (by as_aux_lemma => kernel_rfl) (nofun) (decode_few (S := fun _ => True) (ps := (q.take (k - 1))) (H.viewF 0 rfl) (size := xs.length) (k := k) (n := n) (by omega) hk hkn (by omega) (hof2.ok hk hkn) (by rw [List.length_take]; omega)) ?_
                  rintro _ w220 hE221 rfl
                  have H := H.ext hE221
                  refine RW.fin 5 [21] [(21, .int .i64 30)] (by as_aux_lemma => kernel_rfl) ?_
                  refine WK.run 1 [21] [.code (cd Try.prog 8 [11, 0]), .code (cd Try.prog 8 [12])] [(21, .int .i64 30)] (by as_aux_lemma => kernel_rfl) ?_
                  refine WK.reg1 (l := sq 0 6) (by as_aux_lemma => kernel_rfl) (by as_aux_lemma => kernel_rfl) ?_
                  refine RW.runP 3 [170] (sq 3 6) [(170, .bool true)] (by as_aux_lemma => kernel_rfl) (by as_aux_lemma => kernel_rfl) ?_
                  refine RW.call (κ := .seq) (d := some 171) (r := (sq 4 6)) (g := 28) (args := #[]) (by as_aux_lemma => kernel_rfl) (nofun) (heads_spec (S := fun _ => True)) ?_
                  rintro _ w222 hE223 rfl
                  have H := H.ext hE223
                  refine RW.fin 2 [8] [(8, .bool true)] (by as_aux_lemma => kernel_rfl) ?_
                  refine WK.ret (v := .bool true) Try.func8 (by as_aux_lemma => kernel_rfl) (by as_aux_lemma => kernel_rfl) ?_
                  exact ⟨_, rfl, H.done, rfl⟩


end Go.Proofs.Ytppcdmbkgficiaa
