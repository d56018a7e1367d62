import Derived.Test.YtekgjnblidjloaaG6
namespace Go.Proofs.Ytekgjnblidjloaa
open Go.BX

theorem wipe_new {S : Nat → Prop} {w : World} {O : List Nat} {db : Nat} (H0 : Hp w S O [(db, .cells #[.bool true, .map none, .map none, .slice none 0 0, .bool false, .I 0, .bool false] 51 (0, 0))] [] [] w) :
 Calls Try.prog 21 #[.P db 0] w (Ret fun v w' => v = .tuple #[] ∧ ∃ (x y : Nat), Hp w S O [(db, .cells #[.bool true, .map (some x), .map (some y), .slice none 0 0, .bool false, .I 0, .bool false] 51 (0, 0)), (y, mapO Value.string ptrV ([] : NameL) 0), (x, mapO Value.string ptrV ([] : NameL) 0)] [] [] w') := by
 refine qS (fn := Try.f21) (n := 28) (σ := [(0, .P db 0)]) Try.func21 ?_
 have H := H0
 refine qR 2 [.c [0, 0], .c [0, 1], .c [1]] [(0, .P db 0)] ?_
 refine qG (sq 0 9) ?_
 refine qP 6 (sq 6 9) [(0, .P db 0), (4, .bool false), (7, .P db 0)] ?_
 refine qL .seq 8 (sq 7 9) 4 db 0 0 (.bool true) (H.cells 0 rfl) ?_
 refine qF 2 [(0, .P db 0), (10, .bool false)] ?_
 refine qR 3 [.c [1, 0], .c [2]] [(0, .P db 0)] ?_
 refine qG (sq 0 10) ?_
 refine qP 2 (sq 2 10) [(0, .P db 0), (11, .P db 0), (12, .P db 0)] ?_
 refine RW.new (κ := .seq) (d := some 13) (r := (sq 3 10)) (o := mapO Value.string ptrV ([] : List (ByteArray × (Option Nat) × Nat)) 0) (v := fun b_ => .map (some b_)) (fun _ => by as_aux_lemma => kernel_rfl) (nofun) H ?_
 intro b1 w2 H
 refine RW.new (κ := .seq) (d := some 14) (r := (sq 4 10)) (o := mapO Value.string ptrV ([] : List (ByteArray × (Option Nat) × Nat)) 0) (v := fun b_ => .map (some b_)) (fun _ => by as_aux_lemma => kernel_rfl) (nofun) H ?_
 intro b3 w4 H
 refine qP 2 (sq 6 10) [(0, .P db 0), (12, .P db 0), (13, .map (some b1)), (14, .map (some b3)), (16, .P db 1)] ?_
 refine qW 48 db 1 (sq 7 10) (.map (some b1)) [(b3, mapO Value.string ptrV ([] : List (ByteArray × (Option Nat) × Nat)) 0), (b1, mapO Value.string ptrV ([] : List (ByteArray × (Option Nat) × Nat)) 0), (db, .cells #[.bool true, .map (some b1), .map none, .slice none 0 0, .bool false, .I 0, .bool false] 51 (0, 0))] H 2 rfl rfl ?_
 intro w5 H
 refine qP 2 (sq 9 10) [(0, .P db 0), (14, .map (some b3)), (18, .P db 2)] ?_
 refine qW 48 db 2 (sq 10 10) (.map (some b3)) [(b3, mapO Value.string ptrV ([] : List (ByteArray × (Option Nat) × Nat)) 0), (b1, mapO Value.string ptrV ([] : List (ByteArray × (Option Nat) × Nat)) 0), (db, .cells #[.bool true, .map (some b1), .map (some b3), .slice none 0 0, .bool false, .I 0, .bool false] 51 (0, 0))] H 2 rfl rfl ?_
 intro w6 H
 refine qF 0 [(0, .P db 0)] ?_
 refine qG (sq 0 12) ?_
 refine qP 5 (sq 5 12) [(20, .P db 0), (21, .P db 0), (23, .P db 3)] ?_
 refine qW 49 db 3 (sq 6 12) (.slice none 0 0) [(b3, mapO Value.string ptrV ([] : List (ByteArray × (Option Nat) × Nat)) 0), (b1, mapO Value.string ptrV ([] : List (ByteArray × (Option Nat) × Nat)) 0), (db, .cells #[.bool true, .map (some b1), .map (some b3), .slice none 0 0, .bool false, .I 0, .bool false] 51 (0, 0))] H 2 rfl rfl ?_
 intro w7 H
 refine qP 2 (sq 8 12) [(21, .P db 0), (25, .P db 6)] ?_
 refine qW 4 db 6 (sq 9 12) (.bool false) [(b3, mapO Value.string ptrV ([] : List (ByteArray × (Option Nat) × Nat)) 0), (b1, mapO Value.string ptrV ([] : List (ByteArray × (Option Nat) × Nat)) 0), (db, .cells #[.bool true, .map (some b1), .map (some b3), .slice none 0 0, .bool false, .I 0, .bool false] 51 (0, 0))] H 2 rfl rfl ?_
 intro w8 H
 refine qP 2 (sq 11 12) [(27, .P db 4)] ?_
 refine qW 4 db 4 (sq 12 12) (.bool false) [(b3, mapO Value.string ptrV ([] : List (ByteArray × (Option Nat) × Nat)) 0), (b1, mapO Value.string ptrV ([] : List (ByteArray × (Option Nat) × Nat)) 0), (db, .cells #[.bool true, .map (some b1), .map (some b3), .slice none 0 0, .bool false, .I 0, .bool false] 51 (0, 0))] H 2 rfl rfl ?_
 intro w9 H
 refine qF 0 [] ?_
 refine WK.fin (v := .tuple #[]) Try.func21 (by as_aux_lemma => kernel_rfl) ?_
 have H := H.frontM 1 (M' := [(b1, mapO Value.string ptrV ([] : List (ByteArray × (Option Nat) × Nat)) 0), (b3, mapO Value.string ptrV ([] : List (ByteArray × (Option Nat) × Nat)) 0), (db, .cells #[.bool true, .map (some b1), .map (some b3), .slice none 0 0, .bool false, .I 0, .bool false] 51 (0, 0))]) rfl
 have H := H.frontM 1 (M' := [(b3, mapO Value.string ptrV ([] : List (ByteArray × (Option Nat) × Nat)) 0), (b1, mapO Value.string ptrV ([] : List (ByteArray × (Option Nat) × Nat)) 0), (db, .cells #[.bool true, .map (some b1), .map (some b3), .slice none 0 0, .bool false, .I 0, .bool false] 51 (0, 0))]) rfl
 have H := H.frontM 2 (M' := [(db, .cells #[.bool true, .map (some b1), .map (some b3), .slice none 0 0, .bool false, .I 0, .bool false] 51 (0, 0)), (b3, mapO Value.string ptrV ([] : List (ByteArray × (Option Nat) × Nat)) 0), (b1, mapO Value.string ptrV ([] : List (ByteArray × (Option Nat) × Nat)) 0)]) rfl
 exact ⟨_, rfl, rfl, b1, b3, H⟩

theorem new_spec {S : Nat → Prop} {w : World}  :
 Calls Try.prog 7 #[] w (Ret fun v w' => Ext w w' ∧ ∃ (db x y : Nat), v = .P db 0 ∧ Hp w S [] [(db, .cells #[.bool true, .map (some x), .map (some y), .slice none 0 0, .bool false, .I 0, .bool false] 51 (0, 0)), (y, mapO Value.string ptrV ([] : NameL) 0), (x, mapO Value.string ptrV ([] : NameL) 0)] [⟨stepS, 67, .slice none 0 0, ([] : List StepD)⟩] [] w') := by
 refine qS (fn := Try.f7) (n := 7) (σ := []) Try.func7 ?_
 have H := Hp.startF (w := w) (S := S) (G := []) .nil
 refine qR 3 [.c [1, 0], .c [2]] [] ?_
 refine qG (sq 0 3) ?_
 refine qP 1 (sq 1 3) [(2, .agg #[.bool true, .map none, .map none, .slice none 0 0, .bool false, .I 0, .bool false])] ?_
 refine qB .seq 3 (sq 2 3) #[.bool true, .map none, .map none, .slice none 0 0, .bool false, .I 0, .bool false] 51 H ?_
 intro b1 w2 H
 refine qF 1 [(1, .P b1 0)] ?_
 refine qR 1 [.c [2, 0], .c [3]] [(1, .P b1 0)] ?_
 refine qG (sq 0 2) ?_
 refine qP 1 (sq 1 2) [(1, .P b1 0), (4, .P b1 0)] ?_
 refine RW.callS (d := some 5) (r := (sq 2 2)) (g := 21) (args := #[.P b1 0]) (by as_aux_lemma => kernel_rfl) (wipe_new ((H.lend (M1 := [(b1, .cells #[.bool true, .map none, .map none, .slice none 0 0, .bool false, .I 0, .bool false] 51 (0, 0))]) (W1 := [])).pick [] rfl) ) ?_
 rintro _ w3 ⟨rfl, b4, b5, H'⟩
 have H := H.back (M1 := [(b1, .cells #[.bool true, .map none, .map none, .slice none 0 0, .bool false, .I 0, .bool false] 51 (0, 0))]) (W1 := []) H'
 have H : Hp w S [] [(b1, .cells #[.bool true, .map (some b4), .map (some b5), .slice none 0 0, .bool false, .I 0, .bool false] 51 (0, 0)), (b5, mapO Value.string ptrV ([] : NameL) 0), (b4, mapO Value.string ptrV ([] : NameL) 0)] [] [] _ := H
 refine qF 0 [(1, .P b1 0)] ?_
 refine qR 2 [.c [4]] [(0, .P b1 0)] ?_
 refine qT (.P b1 0) Try.func7 ?_
 exact ⟨_, rfl, H.done, b1, b4, b5, rfl, H.ownNil stepS 67⟩

theorem arm_spec {S : Nat → Prop} {w : World} {O : List Nat} {db sk sn : Nat} {sv nv : Option Nat} {sa : Option Addr} {left : Int} {armed : Bool} (m : Int) (H0 : Hp w S O [(db, .cells #[.bool true, .map sv, .map nv, .slice sa sn sk, .bool armed, .I left, .bool false] 51 (0, 0))] [] [] w) :
 Calls Try.prog 16 #[.P db 0, .I m] w (Ret fun v w' => v = .tuple #[] ∧ Hp w S O [(db, .cells #[.bool true, .map sv, .map nv, .slice sa sn sk, .bool (decide (m ≥ 0)), .I m, .bool false] 51 (0, 0))] [] [] w') := by
 refine qS (fn := Try.f16) (n := 16) (σ := [(0, .P db 0), (1, .I m)]) Try.func16 ?_
 have H := H0
 refine qR 1 [.c [0], .c [1]] [(0, .P db 0), (1, .I m)] ?_
 refine qG (sq 0 3) ?_
 refine qP 1 (sq 1 3) [(0, .P db 0), (1, .I m), (4, .P db 0)] ?_
 refine qK .seq (some 5) (sq 2 3) 23 #[.P db 0] (state_spec (S := fun _ => True) (made := true) (dead := false) (H.viewM 0 rfl (by simp))) ?_
 rintro _ w1 hE2 rfl
 have H := H.ext hE2
 refine qF 1 [(0, .P db 0), (1, .I m), (6, .bool true)] ?_
 refine qR 1 [.c [1, 0]] [(0, .P db 0), (1, .I m)] ?_
 refine qG (sq 0 11) ?_
 refine qP 7 (sq 7 11) [(8, .P db 0), (10, .bool (decide ((m : Int) ≥ 0))), (11, .I m), (13, .P db 4)] ?_
 refine qW 4 db 4 (sq 8 11) (.bool (decide ((m : Int) ≥ 0))) [(db, .cells #[.bool true, .map sv, .map nv, .slice sa sn sk, .bool (decide ((m : Int) ≥ 0)), .I left, .bool false] 51 (0, 0))] H 0 rfl rfl ?_
 intro w3 H
 refine qP 2 (sq 10 11) [(11, .I m), (15, .P db 5)] ?_
 refine qW 3 db 5 (sq 11 11) (.I m) [(db, .cells #[.bool true, .map sv, .map nv, .slice sa sn sk, .bool (decide ((m : Int) ≥ 0)), .I m, .bool false] 51 (0, 0))] H 0 rfl rfl ?_
 intro w4 H
 refine qF 0 [] ?_
 refine WK.fin (v := .tuple #[]) Try.func16 (by as_aux_lemma => kernel_rfl) ?_
 exact ⟨_, rfl, rfl, H⟩

theorem dead_true {S : Nat → Prop} {w : World} {db sn sk : Nat} {sv nv : Option Nat} {sa : Option Addr} {armed : Bool} {left : Int} (hF : (Fc db 0 [.bool true, .map sv, .map nv, .slice sa sn sk, .bool armed, .I left, .bool true]).p S w) :
 Calls Try.prog 19 #[.P db 0] w (Ret fun v w' => Ext w w' ∧ v = .bool true) := by
 refine qS (fn := Try.f19) (n := 6) (σ := [(0, .P db 0)]) Try.func19 ?_
 have H := Hp.startF (w := w) (S := S) (G := [Fc db 0 [.bool true, .map sv, .map nv, .slice sa sn sk, .bool armed, .I left, .bool true]]) (.cons hF .nil)
 refine qR 3 [.c [1, 0], .c [2]] [(0, .P db 0)] ?_
 refine qG (sq 0 4) ?_
 refine qP 1 (sq 1 4) [(3, .P db 0)] ?_
 refine qK .seq (some 4) (sq 2 4) 23 #[.P db 0] (state_spec (S := fun _ => True) (made := true) (dead := true) (H.viewF 0 rfl)) ?_
 rintro _ w1 hE2 rfl
 have H := H.ext hE2
 refine qF 2 [(2, .bool true)] ?_
 refine qT (.bool true) Try.func19 ?_
 exact ⟨_, rfl, H.done, rfl⟩

theorem dead_false {S : Nat → Prop} {w : World} {db sn sk : Nat} {sv nv : Option Nat} {sa : Option Addr} {armed : Bool} {left : Int} (hF : (Fc db 0 [.bool true, .map sv, .map nv, .slice sa sn sk, .bool armed, .I left, .bool false]).p S w) :
 Calls Try.prog 19 #[.P db 0] w (Ret fun v w' => Ext w w' ∧ v = .bool false) := by
 refine qS (fn := Try.f19) (n := 6) (σ := [(0, .P db 0)]) Try.func19 ?_
 have H := Hp.startF (w := w) (S := S) (G := [Fc db 0 [.bool true, .map sv, .map nv, .slice sa sn sk, .bool armed, .I left, .bool false]]) (.cons hF .nil)
 refine qR 3 [.c [1, 0], .c [2]] [(0, .P db 0)] ?_
 refine qG (sq 0 4) ?_
 refine qP 1 (sq 1 4) [(3, .P db 0)] ?_
 refine qK .seq (some 4) (sq 2 4) 23 #[.P db 0] (state_spec (S := fun _ => True) (made := true) (dead := false) (H.viewF 0 rfl)) ?_
 rintro _ w1 hE2 rfl
 have H := H.ext hE2
 refine qF 2 [(2, .bool false)] ?_
 refine qT (.bool false) Try.func19 ?_
 exact ⟨_, rfl, H.done, rfl⟩

theorem names_stop {S : Nat → Prop} {w : World} {db sn sk : Nat} {sv nv : Option Nat} {sa : Option Addr} {armed : Bool} {left : Int} (hF : (Fc db 0 [.bool true, .map sv, .map nv, .slice sa sn sk, .bool armed, .I left, .bool true]).p S w) :
 Calls Try.prog 20 #[.P db 0] w (Ret fun v w' => Ext w w' ∧ v = .slice none 0 0) := by
 refine qS (fn := Try.f20) (n := 12) (σ := [(0, .P db 0)]) Try.func20 ?_
 have H := Hp.startF (w := w) (S := S) (G := [Fc db 0 [.bool true, .map sv, .map nv, .slice sa sn sk, .bool armed, .I left, .bool true]]) (.cons hF .nil)
 refine qR 4 [.c [1, 0, 0], .c [1, 0, 1], .c [2]] [(0, .P db 0)] ?_
 refine qG (sq 0 3) ?_
 refine qP 1 (sq 1 3) [(0, .P db 0), (3, .P db 0)] ?_
 refine qK .seq (some 4) (sq 2 3) 23 #[.P db 0] (state_spec (S := fun _ => True) (made := true) (dead := true) (H.viewF 0 rfl)) ?_
 rintro _ w1 hE2 rfl
 have H := H.ext hE2
 refine qF 1 [(0, .P db 0), (5, .bool true)] ?_
 refine qR 3 [.c [1, 0, 1, 0, 1], .c [2]] [(2, .slice none 0 0)] ?_
 refine qT (.slice none 0 0) Try.func20 ?_
 exact ⟨_, rfl, H.done, rfl⟩

theorem noCrash_nil {S : Nat → Prop} {w : World} {a : Option Addr} {n ca : Nat} :
 Calls Try.prog 10 #[.pointer none, .slice a n ca] w (Ret fun v w' => Ext w w' ∧ v = .tuple #[]) := by
 refine qS (fn := Try.f10) (n := 158) (σ := [(0, .pointer none), (1, .slice a n ca)]) Try.func10 ?_
 have H := Hp.startF (w := w) (S := S) (G := []) .nil
 refine qR 4 [.c [0, 1, 0], .c [1]] [] ?_
 refine qT (.tuple #[]) Try.func10 ?_
 exact ⟨_, rfl, H.done, rfl⟩

theorem noCrash_zero {S : Nat → Prop} {w : World} {db : Nat} {a : Option Addr} {n ca : Nat} (hF : (Fc db 0 [.bool false, .map none, .map none, .slice none 0 0, .bool false, .I 0, .bool false]).p S w) :
 Calls Try.prog 10 #[.P db 0, .slice a n ca] w (Ret fun v w' => Ext w w' ∧ v = .tuple #[]) := by
 refine qS (fn := Try.f10) (n := 158) (σ := [(0, .P db 0), (1, .slice a n ca)]) Try.func10 ?_
 have H := Hp.startF (w := w) (S := S) (G := [Fc db 0 [.bool false, .map none, .map none, .slice none 0 0, .bool false, .I 0, .bool false]]) (.cons hF .nil)
 refine qR 2 [.c [0, 0], .c [0, 1], .c [1]] [(0, .P db 0), (1, .slice a n ca)] ?_
 refine qG (sq 0 9) ?_
 refine qP 6 (sq 6 9) [(0, .P db 0), (1, .slice a n ca), (16, .bool false), (19, .P db 0)] ?_
 refine qL .seq 20 (sq 7 9) 4 db 0 0 (.bool false) (H.fc 0 rfl) ?_
 refine qF 2 [(0, .P db 0), (1, .slice a n ca), (22, .bool true)] ?_
 refine qR 1 [.c [0, 1, 0], .c [1]] [] ?_
 refine qT (.tuple #[]) Try.func10 ?_
 exact ⟨_, rfl, H.done, rfl⟩

theorem noWipe_nil {S : Nat → Prop} {w : World}  :
 Calls Try.prog 21 #[.pointer none] w (Ret fun v w' => Ext w w' ∧ v = .tuple #[]) := by
 refine qS (fn := Try.f21) (n := 28) (σ := [(0, .pointer none)]) Try.func21 ?_
 have H := Hp.startF (w := w) (S := S) (G := []) .nil
 refine qR 4 [.c [0, 1, 0], .c [1]] [] ?_
 refine qT (.tuple #[]) Try.func21 ?_
 exact ⟨_, rfl, H.done, rfl⟩

theorem noWipe_zero {S : Nat → Prop} {w : World} {db : Nat}  (hF : (Fc db 0 [.bool false, .map none, .map none, .slice none 0 0, .bool false, .I 0, .bool false]).p S w) :
 Calls Try.prog 21 #[.P db 0] w (Ret fun v w' => Ext w w' ∧ v = .tuple #[]) := by
 refine qS (fn := Try.f21) (n := 28) (σ := [(0, .P db 0)]) Try.func21 ?_
 have H := Hp.startF (w := w) (S := S) (G := [Fc db 0 [.bool false, .map none, .map none, .slice none 0 0, .bool false, .I 0, .bool false]]) (.cons hF .nil)
 refine qR 2 [.c [0, 0], .c [0, 1], .c [1]] [(0, .P db 0)] ?_
 refine qG (sq 0 9) ?_
 refine qP 6 (sq 6 9) [(0, .P db 0), (4, .bool false), (7, .P db 0)] ?_
 refine qL .seq 8 (sq 7 9) 4 db 0 0 (.bool false) (H.fc 0 rfl) ?_
 refine qF 2 [(0, .P db 0), (10, .bool true)] ?_
 refine qR 1 [.c [0, 1, 0], .c [1]] [] ?_
 refine qT (.tuple #[]) Try.func21 ?_
 exact ⟨_, rfl, H.done, rfl⟩

theorem noArm_nil {S : Nat → Prop} {w : World} (m : Int) :
 Calls Try.prog 16 #[.pointer none, .I m] w (Ret fun v w' => Ext w w' ∧ v = .tuple #[]) := by
 refine qS (fn := Try.f16) (n := 16) (σ := [(0, .pointer none), (1, .I m)]) Try.func16 ?_
 have H := Hp.startF (w := w) (S := S) (G := []) .nil
 refine qR 1 [.c [0], .c [1]] [(0, .pointer none), (1, .I m)] ?_
 refine qG (sq 0 3) ?_
 refine qP 1 (sq 1 3) [(0, .pointer none), (1, .I m), (4, .pointer none)] ?_
 refine qK .seq (some 5) (sq 2 3) 23 #[.pointer none] (state_nil (S := fun _ => True)) ?_
 rintro _ w1 hE2 rfl
 have H := H.ext hE2
 refine qF 1 [(0, .pointer none), (1, .I m), (6, .bool false)] ?_
 refine qR 2 [] [] ?_
 refine WK.fin (v := .tuple #[]) Try.func16 (by as_aux_lemma => kernel_rfl) ?_
 exact ⟨_, rfl, H.done, rfl⟩

theorem noArm_zero {S : Nat → Prop} {w : World} {db : Nat} (m : Int) (hF : (Fc db 0 [.bool false, .map none, .map none, .slice none 0 0, .bool false, .I 0, .bool false]).p S w) :
 Calls Try.prog 16 #[.P db 0, .I m] w (Ret fun v w' => Ext w w' ∧ v = .tuple #[]) := by
 refine qS (fn := Try.f16) (n := 16) (σ := [(0, .P db 0), (1, .I m)]) Try.func16 ?_
 have H := Hp.startF (w := w) (S := S) (G := [Fc db 0 [.bool false, .map none, .map none, .slice none 0 0, .bool false, .I 0, .bool false]]) (.cons hF .nil)
 refine qR 1 [.c [0], .c [1]] [(0, .P db 0), (1, .I m)] ?_
 refine qG (sq 0 3) ?_
 refine qP 1 (sq 1 3) [(0, .P db 0), (1, .I m), (4, .P db 0)] ?_
 refine qK .seq (some 5) (sq 2 3) 23 #[.P db 0] (state_spec (S := fun _ => True) (made := false) (dead := false) (H.viewF 0 rfl)) ?_
 rintro _ w1 hE2 rfl
 have H := H.ext hE2
 refine qF 1 [(0, .P db 0), (1, .I m), (6, .bool false)] ?_
 refine qR 2 [] [] ?_
 refine WK.fin (v := .tuple #[]) Try.func16 (by as_aux_lemma => kernel_rfl) ?_
 exact ⟨_, rfl, H.done, rfl⟩

theorem nofound_nil {S : Nat → Prop} {w : World} (name : ByteArray) :
 Calls Try.prog 26 #[.pointer none, .string name] w (Ret fun v w' => Ext w w' ∧ v = .tuple #[.pointer none, .I 1]) := by
 refine qS (fn := Try.f26) (n := 25) (σ := [(0, .pointer none), (1, .string name)]) Try.func26 ?_
 have H := Hp.startF (w := w) (S := S) (G := []) .nil
 refine qR 4 [.c [1, 0, 0], .c [1, 0, 1], .c [2]] [(0, .pointer none), (1, .string name)] ?_
 refine qG (sq 0 3) ?_
 refine qP 1 (sq 1 3) [(0, .pointer none), (1, .string name), (9, .pointer none)] ?_
 refine qK .seq (some 10) (sq 2 3) 23 #[.pointer none] (state_nil (S := fun _ => True)) ?_
 rintro _ w1 hE2 rfl
 have H := H.ext hE2
 refine qF 1 [(0, .pointer none), (1, .string name), (6, .I 1)] ?_
 refine qR 5 [.c [1, 0, 2, 0, 1], .c [2]] [(4, .pointer none), (5, .I 1)] ?_
 refine qT (.tuple #[.pointer none, .I 1]) Try.func26 ?_
 exact ⟨_, rfl, H.done, rfl⟩

theorem nofound_zero {S : Nat → Prop} {w : World} {db : Nat} (name : ByteArray) (hF : (Fc db 0 [.bool false, .map none, .map none, .slice none 0 0, .bool false, .I 0, .bool false]).p S w) :
 Calls Try.prog 26 #[.P db 0, .string name] w (Ret fun v w' => Ext w w' ∧ v = .tuple #[.pointer none, .I 1]) := by
 refine qS (fn := Try.f26) (n := 25) (σ := [(0, .P db 0), (1, .string name)]) Try.func26 ?_
 have H := Hp.startF (w := w) (S := S) (G := [Fc db 0 [.bool false, .map none, .map none, .slice none 0 0, .bool false, .I 0, .bool false]]) (.cons hF .nil)
 refine qR 4 [.c [1, 0, 0], .c [1, 0, 1], .c [2]] [(0, .P db 0), (1, .string name)] ?_
 refine qG (sq 0 3) ?_
 refine qP 1 (sq 1 3) [(0, .P db 0), (1, .string name), (9, .P db 0)] ?_
 refine qK .seq (some 10) (sq 2 3) 23 #[.P db 0] (state_spec (S := fun _ => True) (made := false) (dead := false) (H.viewF 0 rfl)) ?_
 rintro _ w1 hE2 rfl
 have H := H.ext hE2
 refine qF 1 [(0, .P db 0), (1, .string name), (6, .I 1)] ?_
 refine qR 5 [.c [1, 0, 2, 0, 1], .c [2]] [(4, .pointer none), (5, .I 1)] ?_
 refine qT (.tuple #[.pointer none, .I 1]) Try.func26 ?_
 exact ⟨_, rfl, H.done, rfl⟩

theorem noRead_nil {S : Nat → Prop} {w : World} (name : ByteArray) (m : Int) :
 Calls Try.prog 13 #[.pointer none, .string name, .I m] w (Ret fun v w' => Ext w w' ∧ v = .tuple #[.slice none 0 0, .I 1]) := by
 refine qS (fn := Try.f13) (n := 42) (σ := [(0, .pointer none), (1, .string name), (2, .I m)]) Try.func13 ?_
 have H := Hp.startF (w := w) (S := S) (G := []) .nil
 refine qR 3 [.c [1, 0], .c [2]] [(0, .pointer none), (1, .string name), (2, .I m)] ?_
 refine qG (sq 0 8) ?_
 refine qP 2 (sq 2 8) [(2, .I m), (13, .pointer none), (14, .string name)] ?_
 refine qK .seq (some 15) (sq 3 8) 26 #[.pointer none, .string name] (nofound_nil (S := fun _ => True) name) ?_
 rintro _ w1 hE2 rfl
 have H := H.ext hE2
 refine qF 5 [(2, .I m), (8, .pointer none), (9, .I 1)] ?_
 refine qR 6 [.c [2, 0, 1, 0, 1], .c [3]] [(6, .slice none 0 0), (7, .I 1)] ?_
 refine qT (.tuple #[.slice none 0 0, .I 1]) Try.func13 ?_
 exact ⟨_, rfl, H.done, rfl⟩

theorem noRead_zero {S : Nat → Prop} {w : World} {db : Nat} (name : ByteArray) (m : Int) (hF : (Fc db 0 [.bool false, .map none, .map none, .slice none 0 0, .bool false, .I 0, .bool false]).p S w) :
 Calls Try.prog 13 #[.P db 0, .string name, .I m] w (Ret fun v w' => Ext w w' ∧ v = .tuple #[.slice none 0 0, .I 1]) := by
 refine qS (fn := Try.f13) (n := 42) (σ := [(0, .P db 0), (1, .string name), (2, .I m)]) Try.func13 ?_
 have H := Hp.startF (w := w) (S := S) (G := [Fc db 0 [.bool false, .map none, .map none, .slice none 0 0, .bool false, .I 0, .bool false]]) (.cons hF .nil)
 refine qR 3 [.c [1, 0], .c [2]] [(0, .P db 0), (1, .string name), (2, .I m)] ?_
 refine qG (sq 0 8) ?_
 refine qP 2 (sq 2 8) [(2, .I m), (13, .P db 0), (14, .string name)] ?_
 refine qK .seq (some 15) (sq 3 8) 26 #[.P db 0, .string name] (nofound_zero (S := fun _ => True) name (H.viewF 0 rfl)) ?_
 rintro _ w1 hE2 rfl
 have H := H.ext hE2
 refine qF 5 [(2, .I m), (8, .pointer none), (9, .I 1)] ?_
 refine qR 6 [.c [2, 0, 1, 0, 1], .c [3]] [(6, .slice none 0 0), (7, .I 1)] ?_
 refine qT (.tuple #[.slice none 0 0, .I 1]) Try.func13 ?_
 exact ⟨_, rfl, H.done, rfl⟩

theorem noSize_nil {S : Nat → Prop} {w : World} (name : ByteArray) :
 Calls Try.prog 11 #[.pointer none, .string name] w (Ret fun v w' => Ext w w' ∧ v = .tuple #[.I 0, .I 1]) := by
 refine qS (fn := Try.f11) (n := 21) (σ := [(0, .pointer none), (1, .string name)]) Try.func11 ?_
 have H := Hp.startF (w := w) (S := S) (G := []) .nil
 refine qR 3 [.c [1, 0], .c [2]] [(0, .pointer none), (1, .string name)] ?_
 refine qG (sq 0 8) ?_
 refine qP 2 (sq 2 8) [(9, .pointer none), (10, .string name)] ?_
 refine qK .seq (some 11) (sq 3 8) 26 #[.pointer none, .string name] (nofound_nil (S := fun _ => True) name) ?_
 rintro _ w1 hE2 rfl
 have H := H.ext hE2
 refine qF 5 [(6, .pointer none), (7, .I 1)] ?_
 refine qR 6 [.c [2, 0, 1, 0, 1], .c [3]] [(4, .I 0), (5, .I 1)] ?_
 refine qT (.tuple #[.I 0, .I 1]) Try.func11 ?_
 exact ⟨_, rfl, H.done, rfl⟩

theorem noSize_zero {S : Nat → Prop} {w : World} {db : Nat} (name : ByteArray) (hF : (Fc db 0 [.bool false, .map none, .map none, .slice none 0 0, .bool false, .I 0, .bool false]).p S w) :
 Calls Try.prog 11 #[.P db 0, .string name] w (Ret fun v w' => Ext w w' ∧ v = .tuple #[.I 0, .I 1]) := by
 refine qS (fn := Try.f11) (n := 21) (σ := [(0, .P db 0), (1, .string name)]) Try.func11 ?_
 have H := Hp.startF (w := w) (S := S) (G := [Fc db 0 [.bool false, .map none, .map none, .slice none 0 0, .bool false, .I 0, .bool false]]) (.cons hF .nil)
 refine qR 3 [.c [1, 0], .c [2]] [(0, .P db 0), (1, .string name)] ?_
 refine qG (sq 0 8) ?_
 refine qP 2 (sq 2 8) [(9, .P db 0), (10, .string name)] ?_
 refine qK .seq (some 11) (sq 3 8) 26 #[.P db 0, .string name] (nofound_zero (S := fun _ => True) name (H.viewF 0 rfl)) ?_
 rintro _ w1 hE2 rfl
 have H := H.ext hE2
 refine qF 5 [(6, .pointer none), (7, .I 1)] ?_
 refine qR 6 [.c [2, 0, 1, 0, 1], .c [3]] [(4, .I 0), (5, .I 1)] ?_
 refine qT (.tuple #[.I 0, .I 1]) Try.func11 ?_
 exact ⟨_, rfl, H.done, rfl⟩

theorem noWrite_nil {S : Nat → Prop} {w : World} (name : ByteArray) (m : Int) {a : Option Addr} {n ca : Nat} :
 Calls Try.prog 8 #[.pointer none, .string name, .I m, .slice a n ca] w (Ret fun v w' => Ext w w' ∧ v = .I 1) := by
 refine qS (fn := Try.f8) (n := 111) (σ := [(0, .pointer none), (1, .string name), (2, .I m), (3, .slice a n ca)]) Try.func8 ?_
 have H := Hp.startF (w := w) (S := S) (G := []) .nil
 refine qR 4 [.c [1, 0, 0], .c [1, 0, 1], .c [2]] [(0, .pointer none), (1, .string name), (2, .I m), (3, .slice a n ca)] ?_
 refine qG (sq 0 3) ?_
 refine qP 1 (sq 1 3) [(0, .pointer none), (1, .string name), (2, .I m), (3, .slice a n ca), (13, .pointer none)] ?_
 refine qK .seq (some 14) (sq 2 3) 23 #[.pointer none] (state_nil (S := fun _ => True)) ?_
 rintro _ w1 hE2 rfl
 have H := H.ext hE2
 refine qF 1 [(0, .pointer none), (1, .string name), (2, .I m), (3, .slice a n ca), (9, .I 1)] ?_
 refine qR 5 [.c [1, 0, 2, 0, 1], .c [2]] [(8, .I 1)] ?_
 refine qT (.I 1) Try.func8 ?_
 exact ⟨_, rfl, H.done, rfl⟩

theorem noWrite_zero {S : Nat → Prop} {w : World} {db : Nat} (name : ByteArray) (m : Int) {a : Option Addr} {n ca : Nat} (hF : (Fc db 0 [.bool false, .map none, .map none, .slice none 0 0, .bool false, .I 0, .bool false]).p S w) :
 Calls Try.prog 8 #[.P db 0, .string name, .I m, .slice a n ca] w (Ret fun v w' => Ext w w' ∧ v = .I 1) := by
 refine qS (fn := Try.f8) (n := 111) (σ := [(0, .P db 0), (1, .string name), (2, .I m), (3, .slice a n ca)]) Try.func8 ?_
 have H := Hp.startF (w := w) (S := S) (G := [Fc db 0 [.bool false, .map none, .map none, .slice none 0 0, .bool false, .I 0, .bool false]]) (.cons hF .nil)
 refine qR 4 [.c [1, 0, 0], .c [1, 0, 1], .c [2]] [(0, .P db 0), (1, .string name), (2, .I m), (3, .slice a n ca)] ?_
 refine qG (sq 0 3) ?_
 refine qP 1 (sq 1 3) [(0, .P db 0), (1, .string name), (2, .I m), (3, .slice a n ca), (13, .P db 0)] ?_
 refine qK .seq (some 14) (sq 2 3) 23 #[.P db 0] (state_spec (S := fun _ => True) (made := false) (dead := false) (H.viewF 0 rfl)) ?_
 rintro _ w1 hE2 rfl
 have H := H.ext hE2
 refine qF 1 [(0, .P db 0), (1, .string name), (2, .I m), (3, .slice a n ca), (9, .I 1)] ?_
 refine qR 5 [.c [1, 0, 2, 0, 1], .c [2]] [(8, .I 1)] ?_
 refine qT (.I 1) Try.func8 ?_
 exact ⟨_, rfl, H.done, rfl⟩

theorem noSync_nil {S : Nat → Prop} {w : World} (name : ByteArray) :
 Calls Try.prog 9 #[.pointer none, .string name] w (Ret fun v w' => Ext w w' ∧ v = .I 1) := by
 refine qS (fn := Try.f9) (n := 62) (σ := [(0, .pointer none), (1, .string name)]) Try.func9 ?_
 have H := Hp.startF (w := w) (S := S) (G := []) .nil
 refine qR 3 [.c [1, 0], .c [2]] [(0, .pointer none), (1, .string name)] ?_
 refine qG (sq 0 8) ?_
 refine qP 2 (sq 2 8) [(0, .pointer none), (11, .pointer none), (12, .string name)] ?_
 refine qK .seq (some 13) (sq 3 8) 26 #[.pointer none, .string name] (nofound_nil (S := fun _ => True) name) ?_
 rintro _ w1 hE2 rfl
 have H := H.ext hE2
 refine qF 5 [(0, .pointer none), (5, .pointer none), (6, .I 1)] ?_
 refine qR 6 [.c [2, 0, 1, 0, 1], .c [3]] [(4, .I 1)] ?_
 refine qT (.I 1) Try.func9 ?_
 exact ⟨_, rfl, H.done, rfl⟩

theorem noSync_zero {S : Nat → Prop} {w : World} {db : Nat} (name : ByteArray) (hF : (Fc db 0 [.bool false, .map none, .map none, .slice none 0 0, .bool false, .I 0, .bool false]).p S w) :
 Calls Try.prog 9 #[.P db 0, .string name] w (Ret fun v w' => Ext w w' ∧ v = .I 1) := by
 refine qS (fn := Try.f9) (n := 62) (σ := [(0, .P db 0), (1, .string name)]) Try.func9 ?_
 have H := Hp.startF (w := w) (S := S) (G := [Fc db 0 [.bool false, .map none, .map none, .slice none 0 0, .bool false, .I 0, .bool false]]) (.cons hF .nil)
 refine qR 3 [.c [1, 0], .c [2]] [(0, .P db 0), (1, .string name)] ?_
 refine qG (sq 0 8) ?_
 refine qP 2 (sq 2 8) [(0, .P db 0), (11, .P db 0), (12, .string name)] ?_
 refine qK .seq (some 13) (sq 3 8) 26 #[.P db 0, .string name] (nofound_zero (S := fun _ => True) name (H.viewF 0 rfl)) ?_
 rintro _ w1 hE2 rfl
 have H := H.ext hE2
 refine qF 5 [(0, .P db 0), (5, .pointer none), (6, .I 1)] ?_
 refine qR 6 [.c [2, 0, 1, 0, 1], .c [3]] [(4, .I 1)] ?_
 refine qT (.I 1) Try.func9 ?_
 exact ⟨_, rfl, H.done, rfl⟩

theorem noRename_nil {S : Nat → Prop} {w : World} (name : ByteArray) (to : ByteArray) :
 Calls Try.prog 17 #[.pointer none, .string name, .string to] w (Ret fun v w' => Ext w w' ∧ v = .I 1) := by
 refine qS (fn := Try.f17) (n := 31) (σ := [(0, .pointer none), (1, .string name), (2, .string to)]) Try.func17 ?_
 have H := Hp.startF (w := w) (S := S) (G := []) .nil
 refine qR 4 [.c [1, 0, 0], .c [1, 0, 1], .c [2]] [(0, .pointer none), (1, .string name), (2, .string to)] ?_
 refine qG (sq 0 8) ?_
 refine qP 2 (sq 2 8) [(0, .pointer none), (1, .string name), (2, .string to), (10, .pointer none), (11, .string name)] ?_
 refine qK .seq (some 12) (sq 3 8) 26 #[.pointer none, .string name] (nofound_nil (S := fun _ => True) name) ?_
 rintro _ w1 hE2 rfl
 have H := H.ext hE2
 refine qF 5 [(0, .pointer none), (1, .string name), (2, .string to), (8, .I 1)] ?_
 refine qR 5 [.c [1, 0, 2, 0, 1], .c [2]] [(6, .I 1)] ?_
 refine qT (.I 1) Try.func17 ?_
 exact ⟨_, rfl, H.done, rfl⟩

theorem noRename_zero {S : Nat → Prop} {w : World} {db : Nat} (name : ByteArray) (to : ByteArray) (hF : (Fc db 0 [.bool false, .map none, .map none, .slice none 0 0, .bool false, .I 0, .bool false]).p S w) :
 Calls Try.prog 17 #[.P db 0, .string name, .string to] w (Ret fun v w' => Ext w w' ∧ v = .I 1) := by
 refine qS (fn := Try.f17) (n := 31) (σ := [(0, .P db 0), (1, .string name), (2, .string to)]) Try.func17 ?_
 have H := Hp.startF (w := w) (S := S) (G := [Fc db 0 [.bool false, .map none, .map none, .slice none 0 0, .bool false, .I 0, .bool false]]) (.cons hF .nil)
 refine qR 4 [.c [1, 0, 0], .c [1, 0, 1], .c [2]] [(0, .P db 0), (1, .string name), (2, .string to)] ?_
 refine qG (sq 0 8) ?_
 refine qP 2 (sq 2 8) [(0, .P db 0), (1, .string name), (2, .string to), (10, .P db 0), (11, .string name)] ?_
 refine qK .seq (some 12) (sq 3 8) 26 #[.P db 0, .string name] (nofound_zero (S := fun _ => True) name (H.viewF 0 rfl)) ?_
 rintro _ w1 hE2 rfl
 have H := H.ext hE2
 refine qF 5 [(0, .P db 0), (1, .string name), (2, .string to), (8, .I 1)] ?_
 refine qR 5 [.c [1, 0, 2, 0, 1], .c [2]] [(6, .I 1)] ?_
 refine qT (.I 1) Try.func17 ?_
 exact ⟨_, rfl, H.done, rfl⟩

theorem noRemove_nil {S : Nat → Prop} {w : World} (name : ByteArray) :
 Calls Try.prog 18 #[.pointer none, .string name] w (Ret fun v w' => Ext w w' ∧ v = .I 1) := by
 refine qS (fn := Try.f18) (n := 22) (σ := [(0, .pointer none), (1, .string name)]) Try.func18 ?_
 have H := Hp.startF (w := w) (S := S) (G := []) .nil
 refine qR 4 [.c [1, 0, 0], .c [1, 0, 1], .c [2]] [(0, .pointer none), (1, .string name)] ?_
 refine qG (sq 0 8) ?_
 refine qP 2 (sq 2 8) [(0, .pointer none), (1, .string name), (8, .pointer none), (9, .string name)] ?_
 refine qK .seq (some 10) (sq 3 8) 26 #[.pointer none, .string name] (nofound_nil (S := fun _ => True) name) ?_
 rintro _ w1 hE2 rfl
 have H := H.ext hE2
 refine qF 5 [(0, .pointer none), (1, .string name), (6, .I 1)] ?_
 refine qR 5 [.c [1, 0, 2, 0, 1], .c [2]] [(4, .I 1)] ?_
 refine qT (.I 1) Try.func18 ?_
 exact ⟨_, rfl, H.done, rfl⟩

theorem noRemove_zero {S : Nat → Prop} {w : World} {db : Nat} (name : ByteArray) (hF : (Fc db 0 [.bool false, .map none, .map none, .slice none 0 0, .bool false, .I 0, .bool false]).p S w) :
 Calls Try.prog 18 #[.P db 0, .string name] w (Ret fun v w' => Ext w w' ∧ v = .I 1) := by
 refine qS (fn := Try.f18) (n := 22) (σ := [(0, .P db 0), (1, .string name)]) Try.func18 ?_
 have H := Hp.startF (w := w) (S := S) (G := [Fc db 0 [.bool false, .map none, .map none, .slice none 0 0, .bool false, .I 0, .bool false]]) (.cons hF .nil)
 refine qR 4 [.c [1, 0, 0], .c [1, 0, 1], .c [2]] [(0, .P db 0), (1, .string name)] ?_
 refine qG (sq 0 8) ?_
 refine qP 2 (sq 2 8) [(0, .P db 0), (1, .string name), (8, .P db 0), (9, .string name)] ?_
 refine qK .seq (some 10) (sq 3 8) 26 #[.P db 0, .string name] (nofound_zero (S := fun _ => True) name (H.viewF 0 rfl)) ?_
 rintro _ w1 hE2 rfl
 have H := H.ext hE2
 refine qF 5 [(0, .P db 0), (1, .string name), (6, .I 1)] ?_
 refine qR 5 [.c [1, 0, 2, 0, 1], .c [2]] [(4, .I 1)] ?_
 refine qT (.I 1) Try.func18 ?_
 exact ⟨_, rfl, H.done, rfl⟩

theorem noNames_nil {S : Nat → Prop} {w : World}  :
 Calls Try.prog 20 #[.pointer none] w (Ret fun v w' => Ext w w' ∧ v = .slice none 0 0) := by
 refine qS (fn := Try.f20) (n := 12) (σ := [(0, .pointer none)]) Try.func20 ?_
 have H := Hp.startF (w := w) (S := S) (G := []) .nil
 refine qR 4 [.c [1, 0, 0], .c [1, 0, 1], .c [2]] [(0, .pointer none)] ?_
 refine qG (sq 0 3) ?_
 refine qP 1 (sq 1 3) [(0, .pointer none), (3, .pointer none)] ?_
 refine qK .seq (some 4) (sq 2 3) 23 #[.pointer none] (state_nil (S := fun _ => True)) ?_
 rintro _ w1 hE2 rfl
 have H := H.ext hE2
 refine qF 1 [(0, .pointer none), (5, .bool true)] ?_
 refine qR 3 [.c [1, 0, 1, 0, 1], .c [2]] [(2, .slice none 0 0)] ?_
 refine qT (.slice none 0 0) Try.func20 ?_
 exact ⟨_, rfl, H.done, rfl⟩

theorem noNames_zero {S : Nat → Prop} {w : World} {db : Nat}  (hF : (Fc db 0 [.bool false, .map none, .map none, .slice none 0 0, .bool false, .I 0, .bool false]).p S w) :
 Calls Try.prog 20 #[.P db 0] w (Ret fun v w' => Ext w w' ∧ v = .slice none 0 0) := by
 refine qS (fn := Try.f20) (n := 12) (σ := [(0, .P db 0)]) Try.func20 ?_
 have H := Hp.startF (w := w) (S := S) (G := [Fc db 0 [.bool false, .map none, .map none, .slice none 0 0, .bool false, .I 0, .bool false]]) (.cons hF .nil)
 refine qR 4 [.c [1, 0, 0], .c [1, 0, 1], .c [2]] [(0, .P db 0)] ?_
 refine qG (sq 0 3) ?_
 refine qP 1 (sq 1 3) [(0, .P db 0), (3, .P db 0)] ?_
 refine qK .seq (some 4) (sq 2 3) 23 #[.P db 0] (state_spec (S := fun _ => True) (made := false) (dead := false) (H.viewF 0 rfl)) ?_
 rintro _ w1 hE2 rfl
 have H := H.ext hE2
 refine qF 1 [(0, .P db 0), (5, .bool true)] ?_
 refine qR 3 [.c [1, 0, 1, 0, 1], .c [2]] [(2, .slice none 0 0)] ?_
 refine qT (.slice none 0 0) Try.func20 ?_
 exact ⟨_, rfl, H.done, rfl⟩

theorem noFiles_nil {S : Nat → Prop} {w : World}  :
 Calls Try.prog 22 #[.pointer none] w (Ret fun v w' => Ext w w' ∧ v = .slice none 0 0) := by
 refine qS (fn := Try.f22) (n := 54) (σ := [(0, .pointer none)]) Try.func22 ?_
 have H := Hp.startF (w := w) (S := S) (G := []) .nil
 refine qR 6 [.c [2, 0, 0], .c [2, 0, 1], .c [3]] [(0, .pointer none), (3, .slice none 0 0)] ?_
 refine qG (sq 0 4) ?_
 refine qP 1 (sq 1 4) [(0, .pointer none), (3, .slice none 0 0), (10, .pointer none)] ?_
 refine qK .seq (some 11) (sq 2 4) 20 #[.pointer none] (noNames_nil (S := fun _ => True) ) ?_
 rintro _ w1 hE2 rfl
 have H := H.ext hE2
 refine qF 2 [(0, .pointer none), (3, .slice none 0 0), (11, .slice none 0 0), (12, .I 0), (13, .I 0)] ?_
 refine qR 1 [.c [2, 0, 1, 0], .b 0, .c [3]] [(0, .pointer none), (3, .slice none 0 0), (11, .slice none 0 0), (12, .I 0), (13, .I 0)] ?_
 refine WK.loop (α := Unit) (b := cd Try.prog 22 [2, 0, 1, 0, 0]) (by as_aux_lemma => kernel_rfl) (fun _ => [(0, .pointer none), (3, .slice none 0 0), (11, .slice none 0 0), (12, .I 0), (13, .I 0)]) (fun _ w' => Hp w S [] [] [] [] w' ∧ True) (fun _ => 0) (()) ⟨H, trivial⟩ (rfl) ?_
 rintro _ w4 ⟨H, hinv0⟩ hback3
 refine qR 7 [.c [4]] [(2, .slice none 0 0)] ?_
 refine qT (.slice none 0 0) Try.func22 ?_
 exact ⟨_, rfl, H.done, rfl⟩

theorem noFiles_zero {S : Nat → Prop} {w : World} {db : Nat}  (hF : (Fc db 0 [.bool false, .map none, .map none, .slice none 0 0, .bool false, .I 0, .bool false]).p S w) :
 Calls Try.prog 22 #[.P db 0] w (Ret fun v w' => Ext w w' ∧ v = .slice none 0 0) := by
 refine qS (fn := Try.f22) (n := 54) (σ := [(0, .P db 0)]) Try.func22 ?_
 have H := Hp.startF (w := w) (S := S) (G := [Fc db 0 [.bool false, .map none, .map none, .slice none 0 0, .bool false, .I 0, .bool false]]) (.cons hF .nil)
 refine qR 6 [.c [2, 0, 0], .c [2, 0, 1], .c [3]] [(0, .P db 0), (3, .slice none 0 0)] ?_
 refine qG (sq 0 4) ?_
 refine qP 1 (sq 1 4) [(0, .P db 0), (3, .slice none 0 0), (10, .P db 0)] ?_
 refine qK .seq (some 11) (sq 2 4) 20 #[.P db 0] (noNames_zero (S := fun _ => True)  (H.viewF 0 rfl)) ?_
 rintro _ w1 hE2 rfl
 have H := H.ext hE2
 refine qF 2 [(0, .P db 0), (3, .slice none 0 0), (11, .slice none 0 0), (12, .I 0), (13, .I 0)] ?_
 refine qR 1 [.c [2, 0, 1, 0], .b 0, .c [3]] [(0, .P db 0), (3, .slice none 0 0), (11, .slice none 0 0), (12, .I 0), (13, .I 0)] ?_
 refine WK.loop (α := Unit) (b := cd Try.prog 22 [2, 0, 1, 0, 0]) (by as_aux_lemma => kernel_rfl) (fun _ => [(0, .P db 0), (3, .slice none 0 0), (11, .slice none 0 0), (12, .I 0), (13, .I 0)]) (fun _ w' => Hp w S [] [] [] [Fc db 0 [.bool false, .map none, .map none, .slice none 0 0, .bool false, .I 0, .bool false]] w' ∧ True) (fun _ => 0) (()) ⟨H, trivial⟩ (rfl) ?_
 rintro _ w4 ⟨H, hinv0⟩ hback3
 refine qR 7 [.c [4]] [(2, .slice none 0 0)] ?_
 refine qT (.slice none 0 0) Try.func22 ?_
 exact ⟨_, rfl, H.done, rfl⟩

theorem noDead_nil {S : Nat → Prop} {w : World}  :
 Calls Try.prog 19 #[.pointer none] w (Ret fun v w' => Ext w w' ∧ v = .bool false) := by
 refine qS (fn := Try.f19) (n := 6) (σ := [(0, .pointer none)]) Try.func19 ?_
 have H := Hp.startF (w := w) (S := S) (G := []) .nil
 refine qR 3 [.c [1, 0], .c [2]] [(0, .pointer none)] ?_
 refine qG (sq 0 4) ?_
 refine qP 1 (sq 1 4) [(3, .pointer none)] ?_
 refine qK .seq (some 4) (sq 2 4) 23 #[.pointer none] (state_nil (S := fun _ => True)) ?_
 rintro _ w1 hE2 rfl
 have H := H.ext hE2
 refine qF 2 [(2, .bool false)] ?_
 refine qT (.bool false) Try.func19 ?_
 exact ⟨_, rfl, H.done, rfl⟩

theorem noDead_zero {S : Nat → Prop} {w : World} {db : Nat}  (hF : (Fc db 0 [.bool false, .map none, .map none, .slice none 0 0, .bool false, .I 0, .bool false]).p S w) :
 Calls Try.prog 19 #[.P db 0] w (Ret fun v w' => Ext w w' ∧ v = .bool false) := by
 refine qS (fn := Try.f19) (n := 6) (σ := [(0, .P db 0)]) Try.func19 ?_
 have H := Hp.startF (w := w) (S := S) (G := [Fc db 0 [.bool false, .map none, .map none, .slice none 0 0, .bool false, .I 0, .bool false]]) (.cons hF .nil)
 refine qR 3 [.c [1, 0], .c [2]] [(0, .P db 0)] ?_
 refine qG (sq 0 4) ?_
 refine qP 1 (sq 1 4) [(3, .P db 0)] ?_
 refine qK .seq (some 4) (sq 2 4) 23 #[.P db 0] (state_spec (S := fun _ => True) (made := false) (dead := false) (H.viewF 0 rfl)) ?_
 rintro _ w1 hE2 rfl
 have H := H.ext hE2
 refine qF 2 [(2, .bool false)] ?_
 refine qT (.bool false) Try.func19 ?_
 exact ⟨_, rfl, H.done, rfl⟩


end Go.Proofs.Ytekgjnblidjloaa
