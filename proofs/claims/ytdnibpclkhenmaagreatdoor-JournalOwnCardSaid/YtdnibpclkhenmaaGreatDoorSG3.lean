import Derived.Test.YtdnibpclkhenmaaGreatDoorSG2
namespace Go.Proofs.YtdnibpclkhenmaaGreatDoor
open Go.BX
theorem found_none {S : Nat → Prop} {w : World} {O : List Nat} {db nb sk c sn : Nat} {sv : Option Nat} {sa : Option Addr} {L : NameL} {armed : Bool} {left : Int} {name : ByteArray} (hf : mfind name L = none) (H0 : Hp w S O [(db, .cells #[.bool true, .map sv, .map (some nb), .slice sa sn sk, .bool armed, .I left, .bool false] 39 (0, 0)), (nb, mapO Value.string ptrV L c)] [] [] w) :
 Calls Tryz.prog 103 #[.P db 0, .string name] w (Ret fun v w' => v = .tuple #[.pointer none, .I 71] ∧ Hp w S O [(db, .cells #[.bool true, .map sv, .map (some nb), .slice sa sn sk, .bool armed, .I left, .bool false] 39 (0, 0)), (nb, mapO Value.string ptrV L c)] [] [] w') := by
 refine qS (fn := Tryz.f103) (n := 25) (σ := [(0, .P db 0), (1, .string name)]) Tryz.func103 ?_
 have H := H0
 refine qR 4 [.c [1, 0, 0], .c [1, 0, 1], .c [2]] [(0, .P db 0), (1, .string name)] ?_
 refine qG (sq 0 3) ?_
 refine qP 1 (sq 1 3) [(0, .P db 0), (1, .string name), (9, .P db 0)] ?_
 refine qK .seq (some 10) (sq 2 3) 104 #[.P db 0] (state_spec (S := fun _ => True) (made := true) (dead := false) (H.viewM 0 rfl (by simp))) ?_
 rintro _ w1 hE2 rfl
 have H := H.ext hE2
 refine qF 1 [(0, .P db 0), (1, .string name), (6, .I 0)] ?_
 refine qR 6 [.c [2, 0, 0], .c [2, 0, 1], .c [3]] [(0, .P db 0), (1, .string name)] ?_
 refine qG (sq 0 11) ?_
 refine qP 3 (sq 3 11) [(1, .string name), (17, .P db 2)] ?_
 refine qL .seq 18 (sq 4 11) 36 db 2 2 (.map (some nb)) (H.cells 0 rfl) ?_
 refine qP 1 (sq 5 11) [(18, .map (some nb)), (19, .string name)] ?_
 refine RW.mapGetF (κ := .seq) (d := some 20) (r := (sq 6 11)) (T := 36) (mk := Value.string) (vk := ptrV) (Kt := 9) (E := 139) (z := none) name true (none) (v := .tuple #[.pointer none, .bool false]) (by as_aux_lemma => kernel_rfl) H 1 rfl (KeyOk.str (by as_aux_lemma => kernel_rfl)) (by as_aux_lemma => kernel_rfl) (fun w_ => zeroE_run (by as_aux_lemma => kernel_rfl) w_) (hf) rfl ?_
 refine qF 5 [(7, .pointer none), (8, .bool false)] ?_
 refine qR 6 [.c [4]] [(4, .pointer none), (5, .I 71)] ?_
 refine qT (.tuple #[.pointer none, .I 71]) Tryz.func103 ?_
 exact ⟨_, rfl, rfl, H⟩
theorem found_some {S : Nat → Prop} {w : World} {O : List Nat} {db nb sk c sn : Nat} {sv : Option Nat} {sa : Option Addr} {L : NameL} {armed : Bool} {left : Int} {name : ByteArray} {p : Nat} (hf : mfind name L = some (some p)) (H0 : Hp w S O [(db, .cells #[.bool true, .map sv, .map (some nb), .slice sa sn sk, .bool armed, .I left, .bool false] 39 (0, 0)), (nb, mapO Value.string ptrV L c)] [] [] w) :
 Calls Tryz.prog 103 #[.P db 0, .string name] w (Ret fun v w' => v = .tuple #[.P p 0, .I 0] ∧ Hp w S O [(db, .cells #[.bool true, .map sv, .map (some nb), .slice sa sn sk, .bool armed, .I left, .bool false] 39 (0, 0)), (nb, mapO Value.string ptrV L c)] [] [] w') := by
 refine qS (fn := Tryz.f103) (n := 25) (σ := [(0, .P db 0), (1, .string name)]) Tryz.func103 ?_
 have H := H0
 refine qR 4 [.c [1, 0, 0], .c [1, 0, 1], .c [2]] [(0, .P db 0), (1, .string name)] ?_
 refine qG (sq 0 3) ?_
 refine qP 1 (sq 1 3) [(0, .P db 0), (1, .string name), (9, .P db 0)] ?_
 refine qK .seq (some 10) (sq 2 3) 104 #[.P db 0] (state_spec (S := fun _ => True) (made := true) (dead := false) (H.viewM 0 rfl (by simp))) ?_
 rintro _ w1 hE2 rfl
 have H := H.ext hE2
 refine qF 1 [(0, .P db 0), (1, .string name), (6, .I 0)] ?_
 refine qR 6 [.c [2, 0, 0], .c [2, 0, 1], .c [3]] [(0, .P db 0), (1, .string name)] ?_
 refine qG (sq 0 11) ?_
 refine qP 3 (sq 3 11) [(1, .string name), (17, .P db 2)] ?_
 refine qL .seq 18 (sq 4 11) 36 db 2 2 (.map (some nb)) (H.cells 0 rfl) ?_
 refine qP 1 (sq 5 11) [(18, .map (some nb)), (19, .string name)] ?_
 refine RW.mapGetF (κ := .seq) (d := some 20) (r := (sq 6 11)) (T := 36) (mk := Value.string) (vk := ptrV) (Kt := 9) (E := 139) (z := none) name true ((some (some p))) (v := .tuple #[.P p 0, .bool true]) (by as_aux_lemma => kernel_rfl) H 1 rfl (KeyOk.str (by as_aux_lemma => kernel_rfl)) (by as_aux_lemma => kernel_rfl) (fun w_ => zeroE_run (by as_aux_lemma => kernel_rfl) w_) (hf) rfl ?_
 refine qF 5 [(7, .P p 0), (8, .bool true)] ?_
 refine qR 5 [.c [2, 0, 2, 0, 1], .c [3]] [(4, .P p 0), (5, .I 0)] ?_
 refine qT (.tuple #[.P p 0, .I 0]) Tryz.func103 ?_
 exact ⟨_, rfl, rfl, H⟩
theorem size_none {S : Nat → Prop} {w : World} {O : List Nat} {db nb sk c sn : Nat} {sv : Option Nat} {sa : Option Addr} {L : NameL} {armed : Bool} {left : Int} {name : ByteArray} (hf : mfind name L = none) (H0 : Hp w S O [(db, .cells #[.bool true, .map sv, .map (some nb), .slice sa sn sk, .bool armed, .I left, .bool false] 39 (0, 0)), (nb, mapO Value.string ptrV L c)] [] [] w) :
 Calls Tryz.prog 49 #[.P db 0, .string name] w (Ret fun v w' => v = .tuple #[.I 0, .I 71] ∧ Hp w S O [(db, .cells #[.bool true, .map sv, .map (some nb), .slice sa sn sk, .bool armed, .I left, .bool false] 39 (0, 0)), (nb, mapO Value.string ptrV L c)] [] [] w') := by
 refine qS (fn := Tryz.f49) (n := 21) (σ := [(0, .P db 0), (1, .string name)]) Tryz.func49 ?_
 have H := H0
 refine qR 3 [.c [1, 0], .c [2]] [(0, .P db 0), (1, .string name)] ?_
 refine qG (sq 0 8) ?_
 refine qP 2 (sq 2 8) [(9, .P db 0), (10, .string name)] ?_
 refine RW.callS (d := some 11) (r := (sq 3 8)) (g := 103) (args := #[.P db 0, .string name]) (by as_aux_lemma => kernel_rfl) (found_none hf ((H.lend (M1 := [(db, .cells #[.bool true, .map sv, .map (some nb), .slice sa sn sk, .bool armed, .I left, .bool false] 39 (0, 0)), (nb, mapO Value.string ptrV L c)]) (W1 := [])).pick [] rfl) ) ?_
 rintro _ w1 ⟨rfl, H'⟩
 have H := H.back (M1 := [(db, .cells #[.bool true, .map sv, .map (some nb), .slice sa sn sk, .bool armed, .I left, .bool false] 39 (0, 0)), (nb, mapO Value.string ptrV L c)]) (W1 := []) H'
 have H : Hp w S O [(db, .cells #[.bool true, .map sv, .map (some nb), .slice sa sn sk, .bool armed, .I left, .bool false] 39 (0, 0)), (nb, mapO Value.string ptrV L c)] [] [] _ := H
 refine qF 5 [(6, .pointer none), (7, .I 71)] ?_
 refine qR 6 [.c [2, 0, 1, 0, 1], .c [3]] [(4, .I 0), (5, .I 71)] ?_
 refine qT (.tuple #[.I 0, .I 71]) Tryz.func49 ?_
 exact ⟨_, rfl, rfl, H⟩
theorem size_some {S : Nat → Prop} {w : World} {O : List Nat} {db nb sk c sn : Nat} {sv : Option Nat} {sa : Option Addr} {L : NameL} {armed : Bool} {left : Int} {name : ByteArray} {p s n : Nat} {size : Int} (hf : mfind name L = some (some p)) (H0 : Hp w S O [(db, .cells #[.bool true, .map sv, .map (some nb), .slice sa sn sk, .bool armed, .I left, .bool false] 39 (0, 0)), (nb, mapO Value.string ptrV L c), (p, .cells #[.map (some s), .map (some n), .I size] 147 (0, 0))] [] [] w) :
 Calls Tryz.prog 49 #[.P db 0, .string name] w (Ret fun v w' => v = .tuple #[.I size, .I 0] ∧ Hp w S O [(db, .cells #[.bool true, .map sv, .map (some nb), .slice sa sn sk, .bool armed, .I left, .bool false] 39 (0, 0)), (nb, mapO Value.string ptrV L c), (p, .cells #[.map (some s), .map (some n), .I size] 147 (0, 0))] [] [] w') := by
 refine qS (fn := Tryz.f49) (n := 21) (σ := [(0, .P db 0), (1, .string name)]) Tryz.func49 ?_
 have H := H0
 refine qR 3 [.c [1, 0], .c [2]] [(0, .P db 0), (1, .string name)] ?_
 refine qG (sq 0 8) ?_
 refine qP 2 (sq 2 8) [(9, .P db 0), (10, .string name)] ?_
 refine RW.callS (d := some 11) (r := (sq 3 8)) (g := 103) (args := #[.P db 0, .string name]) (by as_aux_lemma => kernel_rfl) (found_some hf ((H.lend (M1 := [(db, .cells #[.bool true, .map sv, .map (some nb), .slice sa sn sk, .bool armed, .I left, .bool false] 39 (0, 0)), (nb, mapO Value.string ptrV L c)]) (W1 := [])).pick [] rfl) ) ?_
 rintro _ w1 ⟨rfl, H'⟩
 have H := H.back (M1 := [(db, .cells #[.bool true, .map sv, .map (some nb), .slice sa sn sk, .bool armed, .I left, .bool false] 39 (0, 0)), (nb, mapO Value.string ptrV L c)]) (W1 := []) H'
 have H : Hp w S O [(db, .cells #[.bool true, .map sv, .map (some nb), .slice sa sn sk, .bool armed, .I left, .bool false] 39 (0, 0)), (nb, mapO Value.string ptrV L c), (p, .cells #[.map (some s), .map (some n), .I size] 147 (0, 0))] [] [] _ := H
 refine qF 5 [(6, .P p 0), (7, .I 0)] ?_
 refine qR 6 [.c [3, 0], .c [4]] [(6, .P p 0)] ?_
 refine qG (sq 0 6) ?_
 refine qP 3 (sq 3 6) [(19, .P p 2)] ?_
 refine qL .seq 20 (sq 4 6) 3 p 2 2 (.I size) (H.cells 2 rfl) ?_
 refine qF 2 [(4, .I size), (5, .I 0)] ?_
 refine qT (.tuple #[.I size, .I 0]) Tryz.func49 ?_
 exact ⟨_, rfl, rfl, H⟩
theorem secOwn {w0 w : World} {S : Nat → Prop} {O : List Nat} {M : Heap} {W : List OwnS} {G : List Fact} {b : Nat} {T : TypeId} {x : Sec} (H : Hp w0 S O ((b, .cells (secC x).toArray T (0, 0)) :: M) W G w) :
 Hp w0 S O M (⟨Sb, T, .slice (some ⟨b, 0, none⟩) 64 64, secL x⟩ :: W) G w := by
 have h := H.toOwn (sh := Sb) (xs := secL x) (cap := 64) (by simp [secC_len, Shape.bv]) (by rw [secL_len]; exact Nat.le_refl _) (by simp [maxLen]) (fun v hv => secC_ones x v (List.mem_of_mem_take hv)) (fun j y hy => by
  have hj : j < 64 := by have := (List.getElem?_eq_some_iff.1 hy).1; rwa [secL_len] at this
  have e : y = x j := by simpa [secL, hj] using hy.symm
  subst e
  show ((secC x).drop (j * 1)).take 1 = [.int .u8 (((x j).toNat : Nat) : Int)]
  rw [Nat.mul_one]
  apply List.ext_getElem
  · simp [secC_len]; omega
  · intro i h1 h2
    simp at h2
    subst h2
    simp [secC, bcell])
 rw [secL_len] at h
 exact h
theorem read_some {S : Nat → Prop} {w : World} {O : List Nat} {db nb sk c sn : Nat} {sv : Option Nat} {sa : Option Addr} {L : NameL} {armed : Bool} {left : Int} {name : ByteArray} {p s n yc : Nat} {Y : List (Int × Sec × Nat)} {size : Int} (hf : mfind name L = some (some p)) {at_ : Int} (hat : 0 ≤ at_ ∧ at_ < size) (H0 : Hp w S O [(db, .cells #[.bool true, .map sv, .map (some nb), .slice sa sn sk, .bool armed, .I left, .bool false] 39 (0, 0)), (nb, mapO Value.string ptrV L c), (p, .cells #[.map (some s), .map (some n), .I size] 147 (0, 0)), (n, mapO (Value.int .i64) secVal Y yc)] [] [] w) :
 Calls Tryz.prog 159 #[.P db 0, .string name, .I at_] w (Ret fun v w' => ∃ (a' : Option Addr) (c' : Nat), v = .tuple #[.slice a' (secL ((mfind at_ Y).getD zeroSec)).length c', .I 0] ∧ Hp w S O [(db, .cells #[.bool true, .map sv, .map (some nb), .slice sa sn sk, .bool armed, .I left, .bool false] 39 (0, 0)), (nb, mapO Value.string ptrV L c), (p, .cells #[.map (some s), .map (some n), .I size] 147 (0, 0)), (n, mapO (Value.int .i64) secVal Y yc)] [⟨Sb, 5, .slice a' (secL ((mfind at_ Y).getD zeroSec)).length c', (secL ((mfind at_ Y).getD zeroSec))⟩] [] w') := by
 refine qS (fn := Tryz.f159) (n := 42) (σ := [(0, .P db 0), (1, .string name), (2, .I at_)]) Tryz.func159 ?_
 have H := H0
 refine qR 3 [.c [1, 0], .c [2]] [(0, .P db 0), (1, .string name), (2, .I at_)] ?_
 refine qG (sq 0 8) ?_
 refine qP 2 (sq 2 8) [(2, .I at_), (13, .P db 0), (14, .string name)] ?_
 refine RW.callS (d := some 15) (r := (sq 3 8)) (g := 103) (args := #[.P db 0, .string name]) (by as_aux_lemma => kernel_rfl) (found_some hf ((H.lend (M1 := [(db, .cells #[.bool true, .map sv, .map (some nb), .slice sa sn sk, .bool armed, .I left, .bool false] 39 (0, 0)), (nb, mapO Value.string ptrV L c)]) (W1 := [])).pick [] rfl) ) ?_
 rintro _ w1 ⟨rfl, H'⟩
 have H := H.back (M1 := [(db, .cells #[.bool true, .map sv, .map (some nb), .slice sa sn sk, .bool armed, .I left, .bool false] 39 (0, 0)), (nb, mapO Value.string ptrV L c)]) (W1 := []) H'
 have H : Hp w S O [(db, .cells #[.bool true, .map sv, .map (some nb), .slice sa sn sk, .bool armed, .I left, .bool false] 39 (0, 0)), (nb, mapO Value.string ptrV L c), (p, .cells #[.map (some s), .map (some n), .I size] 147 (0, 0)), (n, mapO (Value.int .i64) secVal Y yc)] [] [] _ := H
 refine qF 5 [(2, .I at_), (8, .P p 0), (9, .I 0)] ?_
 refine qR 7 [.c [3, 0, 0], .c [3, 0, 1], .c [4]] [(2, .I at_), (8, .P p 0)] ?_
 refine qG (sq 0 10) ?_
 refine qP 3 (sq 3 10) [(2, .I at_), (8, .P p 0), (23, .bool (decide ((at_ : Int) < 0)))] ?_
 refine tD (fun b_ => [(2, .I at_), (8, .P p 0), (23, .bool b_)]) ((at_ : Int) < 0) (fun h3 => ?_) (fun h3 => ?_)
 ·
  omega
 ·
  refine qP 4 (sq 7 10) [(2, .I at_), (8, .P p 0), (23, .bool false), (24, .I at_), (27, .P p 2)] ?_
  refine qL .seq 28 (sq 8 10) 3 p 2 2 (.I size) (H.cells 2 rfl) ?_
  refine qF 2 [(2, .I at_), (8, .P p 0), (30, .bool (decide ((at_ : Int) ≥ size)))] ?_
  refine qD ((at_ : Int) ≥ size) (fun h4 => ?_) (fun h4 => ?_)
  ·
   omega
  ·
   refine qR 2 [.c [4, 0], .c [5]] [(2, .I at_), (8, .P p 0)] ?_
   refine qG (sq 0 8) ?_
   refine qP 3 (sq 3 8) [(2, .I at_), (33, .P p 1)] ?_
   refine qL .seq 34 (sq 4 8) 145 p 1 1 (.map (some n)) (H.cells 2 rfl) ?_
   refine qP 1 (sq 5 8) [(34, .map (some n)), (35, .I at_)] ?_
   refine RW.mapGet (κ := .seq) (d := some 36) (r := (sq 6 8)) (T := 145) (mk := (Value.int .i64)) (vk := secVal) (Kt := 3) (E := 141) (z := zeroSec) at_ false (by as_aux_lemma => kernel_rfl) H 3 rfl (KeyOk.int (by as_aux_lemma => kernel_rfl)) (by as_aux_lemma => kernel_rfl) (fun w_ => zeroE_run (by as_aux_lemma => kernel_rfl) w_) ?_
   refine qB .seq 10 (sq 7 8) ((secC zeroSec).toArray) 141 H ?_
   intro b5 w6 H
   refine qW 141 b5 0 (sq 8 8) (secVal ((mfind at_ Y).getD zeroSec)) [(b5, .cells (secC ((mfind at_ Y).getD zeroSec)).toArray 141 (0, 0)), (db, .cells #[.bool true, .map sv, .map (some nb), .slice sa sn sk, .bool armed, .I left, .bool false] 39 (0, 0)), (nb, mapO Value.string ptrV L c), (p, .cells #[.map (some s), .map (some n), .I size] 147 (0, 0)), (n, mapO (Value.int .i64) secVal Y yc)] H 0 rfl rfl ?_
   intro w7 H
   refine qF 0 [(10, .P b5 0)] ?_
   refine qR 1 [.c [5, 0], .c [6]] [(10, .P b5 0)] ?_
   refine qG (sq 0 2) ?_
   refine RW.makeW Sb (κ := .seq) (d := some 37) (r := (sq 1 2)) (T := 23) (e := 5) (by_ := 1) (v0 := .int .u8 0) (0#8 : BitVec 8) (kl := .i64) (kc := .i64) (lv := 64) (cv := 64) (by as_aux_lemma => kernel_rfl) (nofun) (by as_aux_lemma => kernel_rfl) rfl H 64 64 (by omega) (by omega) (by omega) (by omega) (by omega) (fun _ _ => rfl) ?_
   intro b8 w9 H
   have H : Hp w S O [(b5, .cells (secC ((mfind at_ Y).getD zeroSec)).toArray 141 (0, 0)), (db, .cells #[.bool true, .map sv, .map (some nb), .slice sa sn sk, .bool armed, .I left, .bool false] 39 (0, 0)), (nb, mapO Value.string ptrV L c), (p, .cells #[.map (some s), .map (some n), .I size] 147 (0, 0)), (n, mapO (Value.int .i64) secVal Y yc)] [⟨Sb, 5, .slice (some ⟨b8, 0, none⟩) 64 64, (List.replicate 64 (0#8 : BitVec 8))⟩] [] _ := H
   refine qF 1 [(10, .P b5 0), (11, .slice (some ⟨b8, 0, none⟩) 64 64)] ?_
   refine qR 1 [.c [6, 0], .c [7]] [(10, .P b5 0), (11, .slice (some ⟨b8, 0, none⟩) 64 64)] ?_
   refine qG (sq 0 3) ?_
   refine qP 1 (sq 1 3) [(10, .P b5 0), (11, .slice (some ⟨b8, 0, none⟩) 64 64), (38, .slice (some ⟨b8, 0, none⟩) 64 64)] ?_
   have H := secOwn H
   have H : Hp w S O [(db, .cells #[.bool true, .map sv, .map (some nb), .slice sa sn sk, .bool armed, .I left, .bool false] 39 (0, 0)), (nb, mapO Value.string ptrV L c), (p, .cells #[.map (some s), .map (some n), .I size] 147 (0, 0)), (n, mapO (Value.int .i64) secVal Y yc)] [⟨Sb, 141, .slice (some ⟨b5, 0, none⟩) 64 64, (secL ((mfind at_ Y).getD zeroSec))⟩, ⟨Sb, 5, .slice (some ⟨b8, 0, none⟩) 64 64, (List.replicate 64 (0#8 : BitVec 8))⟩] [] _ := H
   refine RW.sliceP (κ := .seq) (d := some 39) (r := (sq 2 3)) (T := 141) (e := 5) (N := 64) (m := 1) (b := b5) (hv := none) (by as_aux_lemma => kernel_rfl) (by as_aux_lemma => kernel_rfl) H 64 .nil (by omega) (by rw [secL_len]) rfl rfl (by decide) ?_
   intro H
   have H : Hp w S O [(db, .cells #[.bool true, .map sv, .map (some nb), .slice sa sn sk, .bool armed, .I left, .bool false] 39 (0, 0)), (nb, mapO Value.string ptrV L c), (p, .cells #[.map (some s), .map (some n), .I size] 147 (0, 0)), (n, mapO (Value.int .i64) secVal Y yc)] [⟨Sb, 141, .slice (some ⟨b5, 0, none⟩) 64 64, ((secL ((mfind at_ Y).getD zeroSec)).take 64)⟩, ⟨Sb, 5, .slice (some ⟨b8, 0, none⟩) 64 64, (List.replicate 64 (0#8 : BitVec 8))⟩] [] _ := H
   have H := H.reW (ys := (secL ((mfind at_ Y).getD zeroSec))) (by rw [List.take_of_length_le (by rw [secL_len]; exact Nat.le_refl _)])
   have H : Hp w S O [(db, .cells #[.bool true, .map sv, .map (some nb), .slice sa sn sk, .bool armed, .I left, .bool false] 39 (0, 0)), (nb, mapO Value.string ptrV L c), (p, .cells #[.map (some s), .map (some n), .I size] 147 (0, 0)), (n, mapO (Value.int .i64) secVal Y yc)] [⟨Sb, 141, .slice (some ⟨b5, 0, none⟩) 64 64, (secL ((mfind at_ Y).getD zeroSec))⟩, ⟨Sb, 5, .slice (some ⟨b8, 0, none⟩) 64 64, (List.replicate 64 (0#8 : BitVec 8))⟩] [] _ := H
   have H : Hp w S O [(db, .cells #[.bool true, .map sv, .map (some nb), .slice sa sn sk, .bool armed, .I left, .bool false] 39 (0, 0)), (nb, mapO Value.string ptrV L c), (p, .cells #[.map (some s), .map (some n), .I size] 147 (0, 0)), (n, mapO (Value.int .i64) secVal Y yc)] [⟨Sb, 5, .slice (some ⟨b8, 0, none⟩) 64 64, (List.replicate 64 (0#8 : BitVec 8))⟩] [Rp SB [.slice (some ⟨b5, 0, none⟩) 64 64] (secL ((mfind at_ Y).getD zeroSec))] _ := H.freezeW 0 rfl
   refine RW.copyW (d := some 40) (r := (sq 3 3)) (T := 23) (T2 := 23) (e := 5) (ty := 3) (m := 1) (zs := (secL ((mfind at_ Y).getD zeroSec))) (a := (some ⟨b8, 0, none⟩)) (dl := 64) (dc := 64) (a2 := (some ⟨b5, 0, none⟩)) (sl := 64) (sc := 64) (by as_aux_lemma => kernel_rfl) (by as_aux_lemma => kernel_rfl) rfl H 0 rfl (by simp) (by rw [List.length_replicate, secL_len, List.drop_eq_nil_of_le (by rw [List.length_replicate]; exact Nat.le_refl _), List.append_nil, List.take_of_length_le (by rw [secL_len]; exact Nat.le_refl _)]) ?_
   intro w10 H
   have H : Hp w S O [(db, .cells #[.bool true, .map sv, .map (some nb), .slice sa sn sk, .bool armed, .I left, .bool false] 39 (0, 0)), (nb, mapO Value.string ptrV L c), (p, .cells #[.map (some s), .map (some n), .I size] 147 (0, 0)), (n, mapO (Value.int .i64) secVal Y yc)] [⟨Sb, 5, .slice (some ⟨b8, 0, none⟩) 64 64, (secL ((mfind at_ Y).getD zeroSec))⟩] [Rp SB [.slice (some ⟨b5, 0, none⟩) 64 64] (secL ((mfind at_ Y).getD zeroSec))] _ := H
   refine qF 0 [(11, .slice (some ⟨b8, 0, none⟩) 64 64)] ?_
   refine qR 2 [.c [8]] [(6, .slice (some ⟨b8, 0, none⟩) 64 64), (7, .I 0)] ?_
   refine qT (.tuple #[.slice (some ⟨b8, 0, none⟩) 64 64, .I 0]) Tryz.func159 ?_
   have H := H.pick [] rfl
   exact ⟨_, rfl, _, _, rfl, H⟩
theorem read_none {S : Nat → Prop} {w : World} {O : List Nat} {db nb sk c sn : Nat} {sv : Option Nat} {sa : Option Addr} {L : NameL} {armed : Bool} {left : Int} {name : ByteArray} (hf : mfind name L = none) (at_ : Int) (H0 : Hp w S O [(db, .cells #[.bool true, .map sv, .map (some nb), .slice sa sn sk, .bool armed, .I left, .bool false] 39 (0, 0)), (nb, mapO Value.string ptrV L c)] [] [] w) :
 Calls Tryz.prog 159 #[.P db 0, .string name, .I at_] w (Ret fun v w' => v = .tuple #[.slice none 0 0, .I 71] ∧ Hp w S O [(db, .cells #[.bool true, .map sv, .map (some nb), .slice sa sn sk, .bool armed, .I left, .bool false] 39 (0, 0)), (nb, mapO Value.string ptrV L c)] [] [] w') := by
 refine qS (fn := Tryz.f159) (n := 42) (σ := [(0, .P db 0), (1, .string name), (2, .I at_)]) Tryz.func159 ?_
 have H := H0
 refine qR 3 [.c [1, 0], .c [2]] [(0, .P db 0), (1, .string name), (2, .I at_)] ?_
 refine qG (sq 0 8) ?_
 refine qP 2 (sq 2 8) [(2, .I at_), (13, .P db 0), (14, .string name)] ?_
 refine RW.callS (d := some 15) (r := (sq 3 8)) (g := 103) (args := #[.P db 0, .string name]) (by as_aux_lemma => kernel_rfl) (found_none hf ((H.lend (M1 := [(db, .cells #[.bool true, .map sv, .map (some nb), .slice sa sn sk, .bool armed, .I left, .bool false] 39 (0, 0)), (nb, mapO Value.string ptrV L c)]) (W1 := [])).pick [] rfl) ) ?_
 rintro _ w1 ⟨rfl, H'⟩
 have H := H.back (M1 := [(db, .cells #[.bool true, .map sv, .map (some nb), .slice sa sn sk, .bool armed, .I left, .bool false] 39 (0, 0)), (nb, mapO Value.string ptrV L c)]) (W1 := []) H'
 have H : Hp w S O [(db, .cells #[.bool true, .map sv, .map (some nb), .slice sa sn sk, .bool armed, .I left, .bool false] 39 (0, 0)), (nb, mapO Value.string ptrV L c)] [] [] _ := H
 refine qF 5 [(2, .I at_), (8, .pointer none), (9, .I 71)] ?_
 refine qR 6 [.c [2, 0, 1, 0, 1], .c [3]] [(6, .slice none 0 0), (7, .I 71)] ?_
 refine qT (.tuple #[.slice none 0 0, .I 71]) Tryz.func159 ?_
 exact ⟨_, rfl, rfl, H⟩
theorem read_out {S : Nat → Prop} {w : World} {O : List Nat} {db nb sk c sn : Nat} {sv : Option Nat} {sa : Option Addr} {L : NameL} {armed : Bool} {left : Int} {name : ByteArray} {p s n : Nat} {size : Int} (hf : mfind name L = some (some p)) {at_ : Int} (hat : at_ < 0 ∨ size ≤ at_) (H0 : Hp w S O [(db, .cells #[.bool true, .map sv, .map (some nb), .slice sa sn sk, .bool armed, .I left, .bool false] 39 (0, 0)), (nb, mapO Value.string ptrV L c), (p, .cells #[.map (some s), .map (some n), .I size] 147 (0, 0))] [] [] w) :
 Calls Tryz.prog 159 #[.P db 0, .string name, .I at_] w (Ret fun v w' => v = .tuple #[.slice none 0 0, .I 2] ∧ Hp w S O [(db, .cells #[.bool true, .map sv, .map (some nb), .slice sa sn sk, .bool armed, .I left, .bool false] 39 (0, 0)), (nb, mapO Value.string ptrV L c), (p, .cells #[.map (some s), .map (some n), .I size] 147 (0, 0))] [] [] w') := by
 refine qS (fn := Tryz.f159) (n := 42) (σ := [(0, .P db 0), (1, .string name), (2, .I at_)]) Tryz.func159 ?_
 have H := H0
 refine qR 3 [.c [1, 0], .c [2]] [(0, .P db 0), (1, .string name), (2, .I at_)] ?_
 refine qG (sq 0 8) ?_
 refine qP 2 (sq 2 8) [(2, .I at_), (13, .P db 0), (14, .string name)] ?_
 refine RW.callS (d := some 15) (r := (sq 3 8)) (g := 103) (args := #[.P db 0, .string name]) (by as_aux_lemma => kernel_rfl) (found_some hf ((H.lend (M1 := [(db, .cells #[.bool true, .map sv, .map (some nb), .slice sa sn sk, .bool armed, .I left, .bool false] 39 (0, 0)), (nb, mapO Value.string ptrV L c)]) (W1 := [])).pick [] rfl) ) ?_
 rintro _ w1 ⟨rfl, H'⟩
 have H := H.back (M1 := [(db, .cells #[.bool true, .map sv, .map (some nb), .slice sa sn sk, .bool armed, .I left, .bool false] 39 (0, 0)), (nb, mapO Value.string ptrV L c)]) (W1 := []) H'
 have H : Hp w S O [(db, .cells #[.bool true, .map sv, .map (some nb), .slice sa sn sk, .bool armed, .I left, .bool false] 39 (0, 0)), (nb, mapO Value.string ptrV L c), (p, .cells #[.map (some s), .map (some n), .I size] 147 (0, 0))] [] [] _ := H
 refine qF 5 [(2, .I at_), (8, .P p 0), (9, .I 0)] ?_
 refine qR 7 [.c [3, 0, 0], .c [3, 0, 1], .c [4]] [(2, .I at_), (8, .P p 0)] ?_
 refine qG (sq 0 10) ?_
 refine qP 3 (sq 3 10) [(2, .I at_), (8, .P p 0), (23, .bool (decide ((at_ : Int) < 0)))] ?_
 refine tD (fun b_ => [(2, .I at_), (8, .P p 0), (23, .bool b_)]) ((at_ : Int) < 0) (fun h3 => ?_) (fun h3 => ?_)
 ·
  refine qF 7 [(2, .I at_), (8, .P p 0), (30, .bool true)] ?_
  refine qR 3 [.c [3, 0, 1, 0, 1], .c [4]] [(6, .slice none 0 0), (7, .I 2)] ?_
  refine qT (.tuple #[.slice none 0 0, .I 2]) Tryz.func159 ?_
  exact ⟨_, rfl, rfl, H⟩
 ·
  refine qP 4 (sq 7 10) [(2, .I at_), (8, .P p 0), (23, .bool false), (24, .I at_), (27, .P p 2)] ?_
  refine qL .seq 28 (sq 8 10) 3 p 2 2 (.I size) (H.cells 2 rfl) ?_
  refine qF 2 [(2, .I at_), (8, .P p 0), (30, .bool (decide ((at_ : Int) ≥ size)))] ?_
  refine qD ((at_ : Int) ≥ size) (fun h4 => ?_) (fun h4 => ?_)
  ·
   refine qR 2 [.c [3, 0, 1, 0, 1], .c [4]] [(6, .slice none 0 0), (7, .I 2)] ?_
   refine qT (.tuple #[.slice none 0 0, .I 2]) Tryz.func159 ?_
   exact ⟨_, rfl, rfl, H⟩
  ·
   omega
end Go.Proofs.YtdnibpclkhenmaaGreatDoor
