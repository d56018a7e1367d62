import Derived.Test.YtdnibpclkhenmaaGreatDoorSG6
namespace Go.Proofs.YtdnibpclkhenmaaGreatDoor
open Go.BX
theorem wipe_new {S : Nat → Prop} {w : World} {O : List Nat} {db : Nat} (H0 : Hp w S O [(db, .cells #[.bool true, .map none, .map none, .slice none 0 0, .bool false, .I 0, .bool false] 39 (0, 0))] [] [] w) :
 Calls Tryz.prog 48 #[.P db 0] w (Ret fun v w' => v = .tuple #[] ∧ ∃ (x y : Nat), Hp w S O [(db, .cells #[.bool true, .map (some x), .map (some y), .slice none 0 0, .bool false, .I 0, .bool false] 39 (0, 0)), (y, mapO Value.string ptrV ([] : NameL) 0), (x, mapO Value.string ptrV ([] : NameL) 0)] [] [] w') := by
 refine qS (fn := Tryz.f48) (n := 28) (σ := [(0, .P db 0)]) Tryz.func48 ?_
 have H := H0
 refine qR 2 [.c [0, 0], .c [0, 1], .c [1]] [(0, .P db 0)] ?_
 refine qG (sq 0 9) ?_
 refine qP 6 (sq 6 9) [(0, .P db 0), (4, .bool false), (7, .P db 0)] ?_
 refine qL .seq 8 (sq 7 9) 4 db 0 0 (.bool true) (H.cells 0 rfl) ?_
 refine qF 2 [(0, .P db 0), (10, .bool false)] ?_
 refine qR 3 [.c [1, 0], .c [2]] [(0, .P db 0)] ?_
 refine qG (sq 0 10) ?_
 refine qP 2 (sq 2 10) [(0, .P db 0), (11, .P db 0), (12, .P db 0)] ?_
 refine RW.new (κ := .seq) (d := some 13) (r := (sq 3 10)) (o := mapO Value.string ptrV ([] : List (ByteArray × (Option Nat) × Nat)) 0) (v := fun b_ => .map (some b_)) (fun _ => by as_aux_lemma => kernel_rfl) (nofun) H ?_
 intro b1 w2 H
 refine RW.new (κ := .seq) (d := some 14) (r := (sq 4 10)) (o := mapO Value.string ptrV ([] : List (ByteArray × (Option Nat) × Nat)) 0) (v := fun b_ => .map (some b_)) (fun _ => by as_aux_lemma => kernel_rfl) (nofun) H ?_
 intro b3 w4 H
 refine qP 2 (sq 6 10) [(0, .P db 0), (12, .P db 0), (13, .map (some b1)), (14, .map (some b3)), (16, .P db 1)] ?_
 refine qW 36 db 1 (sq 7 10) (.map (some b1)) [(b3, mapO Value.string ptrV ([] : List (ByteArray × (Option Nat) × Nat)) 0), (b1, mapO Value.string ptrV ([] : List (ByteArray × (Option Nat) × Nat)) 0), (db, .cells #[.bool true, .map (some b1), .map none, .slice none 0 0, .bool false, .I 0, .bool false] 39 (0, 0))] H 2 rfl rfl ?_
 intro w5 H
 refine qP 2 (sq 9 10) [(0, .P db 0), (14, .map (some b3)), (18, .P db 2)] ?_
 refine qW 36 db 2 (sq 10 10) (.map (some b3)) [(b3, mapO Value.string ptrV ([] : List (ByteArray × (Option Nat) × Nat)) 0), (b1, mapO Value.string ptrV ([] : List (ByteArray × (Option Nat) × Nat)) 0), (db, .cells #[.bool true, .map (some b1), .map (some b3), .slice none 0 0, .bool false, .I 0, .bool false] 39 (0, 0))] H 2 rfl rfl ?_
 intro w6 H
 refine qF 0 [(0, .P db 0)] ?_
 refine qG (sq 0 12) ?_
 refine qP 5 (sq 5 12) [(20, .P db 0), (21, .P db 0), (23, .P db 3)] ?_
 refine qW 37 db 3 (sq 6 12) (.slice none 0 0) [(b3, mapO Value.string ptrV ([] : List (ByteArray × (Option Nat) × Nat)) 0), (b1, mapO Value.string ptrV ([] : List (ByteArray × (Option Nat) × Nat)) 0), (db, .cells #[.bool true, .map (some b1), .map (some b3), .slice none 0 0, .bool false, .I 0, .bool false] 39 (0, 0))] H 2 rfl rfl ?_
 intro w7 H
 refine qP 2 (sq 8 12) [(21, .P db 0), (25, .P db 6)] ?_
 refine qW 4 db 6 (sq 9 12) (.bool false) [(b3, mapO Value.string ptrV ([] : List (ByteArray × (Option Nat) × Nat)) 0), (b1, mapO Value.string ptrV ([] : List (ByteArray × (Option Nat) × Nat)) 0), (db, .cells #[.bool true, .map (some b1), .map (some b3), .slice none 0 0, .bool false, .I 0, .bool false] 39 (0, 0))] H 2 rfl rfl ?_
 intro w8 H
 refine qP 2 (sq 11 12) [(27, .P db 4)] ?_
 refine qW 4 db 4 (sq 12 12) (.bool false) [(b3, mapO Value.string ptrV ([] : List (ByteArray × (Option Nat) × Nat)) 0), (b1, mapO Value.string ptrV ([] : List (ByteArray × (Option Nat) × Nat)) 0), (db, .cells #[.bool true, .map (some b1), .map (some b3), .slice none 0 0, .bool false, .I 0, .bool false] 39 (0, 0))] H 2 rfl rfl ?_
 intro w9 H
 refine qF 0 [] ?_
 refine WK.fin (v := .tuple #[]) Tryz.func48 (by as_aux_lemma => kernel_rfl) ?_
 have H := H.frontM 1 (M' := [(b1, mapO Value.string ptrV ([] : List (ByteArray × (Option Nat) × Nat)) 0), (b3, mapO Value.string ptrV ([] : List (ByteArray × (Option Nat) × Nat)) 0), (db, .cells #[.bool true, .map (some b1), .map (some b3), .slice none 0 0, .bool false, .I 0, .bool false] 39 (0, 0))]) rfl
 have H := H.frontM 1 (M' := [(b3, mapO Value.string ptrV ([] : List (ByteArray × (Option Nat) × Nat)) 0), (b1, mapO Value.string ptrV ([] : List (ByteArray × (Option Nat) × Nat)) 0), (db, .cells #[.bool true, .map (some b1), .map (some b3), .slice none 0 0, .bool false, .I 0, .bool false] 39 (0, 0))]) rfl
 have H := H.frontM 2 (M' := [(db, .cells #[.bool true, .map (some b1), .map (some b3), .slice none 0 0, .bool false, .I 0, .bool false] 39 (0, 0)), (b3, mapO Value.string ptrV ([] : List (ByteArray × (Option Nat) × Nat)) 0), (b1, mapO Value.string ptrV ([] : List (ByteArray × (Option Nat) × Nat)) 0)]) rfl
 exact ⟨_, rfl, rfl, b1, b3, H⟩
theorem new_spec {S : Nat → Prop} {w : World}  :
 Calls Tryz.prog 12 #[] w (Ret fun v w' => Ext w w' ∧ ∃ (db x y : Nat), v = .P db 0 ∧ Hp w S [] [(db, .cells #[.bool true, .map (some x), .map (some y), .slice none 0 0, .bool false, .I 0, .bool false] 39 (0, 0)), (y, mapO Value.string ptrV ([] : NameL) 0), (x, mapO Value.string ptrV ([] : NameL) 0)] [⟨stepS, 143, .slice none 0 0, ([] : List StepD)⟩] [] w') := by
 refine qS (fn := Tryz.f12) (n := 7) (σ := []) Tryz.func12 ?_
 have H := Hp.startF (w := w) (S := S) (G := []) .nil
 refine qR 3 [.c [1, 0], .c [2]] [] ?_
 refine qG (sq 0 3) ?_
 refine qP 1 (sq 1 3) [(2, .agg #[.bool true, .map none, .map none, .slice none 0 0, .bool false, .I 0, .bool false])] ?_
 refine qB .seq 3 (sq 2 3) #[.bool true, .map none, .map none, .slice none 0 0, .bool false, .I 0, .bool false] 39 H ?_
 intro b1 w2 H
 refine qF 1 [(1, .P b1 0)] ?_
 refine qR 1 [.c [2, 0], .c [3]] [(1, .P b1 0)] ?_
 refine qG (sq 0 2) ?_
 refine qP 1 (sq 1 2) [(1, .P b1 0), (4, .P b1 0)] ?_
 refine RW.callS (d := some 5) (r := (sq 2 2)) (g := 48) (args := #[.P b1 0]) (by as_aux_lemma => kernel_rfl) (wipe_new ((H.lend (M1 := [(b1, .cells #[.bool true, .map none, .map none, .slice none 0 0, .bool false, .I 0, .bool false] 39 (0, 0))]) (W1 := [])).pick [] rfl) ) ?_
 rintro _ w3 ⟨rfl, b4, b5, H'⟩
 have H := H.back (M1 := [(b1, .cells #[.bool true, .map none, .map none, .slice none 0 0, .bool false, .I 0, .bool false] 39 (0, 0))]) (W1 := []) H'
 have H : Hp w S [] [(b1, .cells #[.bool true, .map (some b4), .map (some b5), .slice none 0 0, .bool false, .I 0, .bool false] 39 (0, 0)), (b5, mapO Value.string ptrV ([] : NameL) 0), (b4, mapO Value.string ptrV ([] : NameL) 0)] [] [] _ := H
 refine qF 0 [(1, .P b1 0)] ?_
 refine qR 2 [.c [4]] [(0, .P b1 0)] ?_
 refine qT (.P b1 0) Tryz.func12 ?_
 exact ⟨_, rfl, H.done, b1, b4, b5, rfl, H.ownNil stepS 143⟩
theorem dead_true {S : Nat → Prop} {w : World} {db sn sk : Nat} {sv nv : Option Nat} {sa : Option Addr} {armed : Bool} {left : Int} (hF : (Fc db 0 [.bool true, .map sv, .map nv, .slice sa sn sk, .bool armed, .I left, .bool true]).p S w) :
 Calls Tryz.prog 51 #[.P db 0] w (Ret fun v w' => Ext w w' ∧ v = .bool true) := by
 refine qS (fn := Tryz.f51) (n := 6) (σ := [(0, .P db 0)]) Tryz.func51 ?_
 have H := Hp.startF (w := w) (S := S) (G := [Fc db 0 [.bool true, .map sv, .map nv, .slice sa sn sk, .bool armed, .I left, .bool true]]) (.cons hF .nil)
 refine qR 3 [.c [1, 0], .c [2]] [(0, .P db 0)] ?_
 refine qG (sq 0 4) ?_
 refine qP 1 (sq 1 4) [(3, .P db 0)] ?_
 refine qK .seq (some 4) (sq 2 4) 104 #[.P db 0] (state_spec (S := fun _ => True) (made := true) (dead := true) (H.viewF 0 rfl)) ?_
 rintro _ w1 hE2 rfl
 have H := H.ext hE2
 refine qF 2 [(2, .bool true)] ?_
 refine qT (.bool true) Tryz.func51 ?_
 exact ⟨_, rfl, H.done, rfl⟩
theorem dead_false {S : Nat → Prop} {w : World} {db sn sk : Nat} {sv nv : Option Nat} {sa : Option Addr} {armed : Bool} {left : Int} (hF : (Fc db 0 [.bool true, .map sv, .map nv, .slice sa sn sk, .bool armed, .I left, .bool false]).p S w) :
 Calls Tryz.prog 51 #[.P db 0] w (Ret fun v w' => Ext w w' ∧ v = .bool false) := by
 refine qS (fn := Tryz.f51) (n := 6) (σ := [(0, .P db 0)]) Tryz.func51 ?_
 have H := Hp.startF (w := w) (S := S) (G := [Fc db 0 [.bool true, .map sv, .map nv, .slice sa sn sk, .bool armed, .I left, .bool false]]) (.cons hF .nil)
 refine qR 3 [.c [1, 0], .c [2]] [(0, .P db 0)] ?_
 refine qG (sq 0 4) ?_
 refine qP 1 (sq 1 4) [(3, .P db 0)] ?_
 refine qK .seq (some 4) (sq 2 4) 104 #[.P db 0] (state_spec (S := fun _ => True) (made := true) (dead := false) (H.viewF 0 rfl)) ?_
 rintro _ w1 hE2 rfl
 have H := H.ext hE2
 refine qF 2 [(2, .bool false)] ?_
 refine qT (.bool false) Tryz.func51 ?_
 exact ⟨_, rfl, H.done, rfl⟩
end Go.Proofs.YtdnibpclkhenmaaGreatDoor
