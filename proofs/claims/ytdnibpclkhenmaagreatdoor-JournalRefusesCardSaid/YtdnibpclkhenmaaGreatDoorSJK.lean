import Derived.Test.YtdnibpclkhenmaaGreatDoorSJD
import Derived.Test.YtdnibpclkhenmaaGreatDoorSG7
namespace Go.Proofs.YtdnibpclkhenmaaGreatDoor
open Go.BX
theorem jstate_nil {S : Nat → Prop} {w : World}  :
 Calls Tryz.prog 54 #[.pointer none] w (Ret fun v w' => Ext w w' ∧ v = .I 1) := by
 refine qS (fn := Tryz.f54) (n := 19) (σ := [(0, .pointer none)]) Tryz.func54 ?_
 have H := Hp.startF (w := w) (S := S) (G := []) .nil
 refine qR 9 [.c [1, 0, 0, 1, 0, 1], .b 0, .c [2]] [(2, .I 1)] ?_
 refine qT (.I 1) Tryz.func54 ?_
 exact ⟨_, rfl, H.done, rfl⟩
theorem jstate_zero {S : Nat → Prop} {w : World} {jb : Nat} (hF : (Fc jb 0 [.pointer none, .string (⟨#[]⟩ : ByteArray), .slice none 0 0, .slice none 0 0, .I 0, .string (⟨#[]⟩ : ByteArray), .slice none 0 0, .bool false]).p S w) :
 Calls Tryz.prog 54 #[.P jb 0] w (Ret fun v w' => Ext w w' ∧ v = .I 1) := by
 refine qS (fn := Tryz.f54) (n := 19) (σ := [(0, .P jb 0)]) Tryz.func54 ?_
 have H := Hp.startF (w := w) (S := S) (G := [Fc jb 0 [.pointer none, .string (⟨#[]⟩ : ByteArray), .slice none 0 0, .slice none 0 0, .I 0, .string (⟨#[]⟩ : ByteArray), .slice none 0 0, .bool false]]) (.cons hF .nil)
 refine qR 5 [.c [1, 0, 0, 0], .c [1, 0, 0, 1], .b 0, .c [2]] [(0, .P jb 0)] ?_
 refine qG (sq 0 10) ?_
 refine qP 6 (sq 6 10) [(0, .P jb 0), (6, .bool false), (9, .P jb 0)] ?_
 refine qL .seq 10 (sq 7 10) 24 jb 0 0 (.pointer none) (H.fc 0 rfl) ?_
 refine qF 3 [(0, .P jb 0), (3, .bool true)] ?_
 refine qR 3 [.c [1, 0, 0, 1, 0, 1], .b 0, .c [2]] [(2, .I 1)] ?_
 refine qT (.I 1) Tryz.func54 ?_
 exact ⟨_, rfl, H.done, rfl⟩
theorem jAppend_nil {S : Nat → Prop} {w : World} {a : Option Addr} {n ca : Nat}  :
 Calls Tryz.prog 16 #[.pointer none, .slice a n ca] w (Ret fun v w' => Ext w w' ∧ v = .I 1) := by
 refine qS (fn := Tryz.f16) (n := 103) (σ := [(0, .pointer none), (1, .slice a n ca)]) Tryz.func16 ?_
 have H := Hp.startF (w := w) (S := S) (G := []) .nil
 refine qR 4 [.c [1, 0, 0], .c [1, 0, 1], .c [2]] [(0, .pointer none), (1, .slice a n ca)] ?_
 refine qG (sq 0 3) ?_
 refine qP 1 (sq 1 3) [(0, .pointer none), (1, .slice a n ca), (12, .pointer none)] ?_
 refine qK .seq (some 13) (sq 2 3) 54 #[.pointer none] (jstate_nil (S := fun _ => True)) ?_
 rintro _ w1 hE2 rfl
 have H := H.ext hE2
 refine qF 1 [(0, .pointer none), (1, .slice a n ca), (5, .I 1)] ?_
 refine qR 5 [.c [1, 0, 2, 0, 1], .c [2]] [(4, .I 1)] ?_
 refine qT (.I 1) Tryz.func16 ?_
 exact ⟨_, rfl, H.done, rfl⟩
theorem jAppend_zero {S : Nat → Prop} {w : World} {jb : Nat} {a : Option Addr} {n ca : Nat} (hF : (Fc jb 0 [.pointer none, .string (⟨#[]⟩ : ByteArray), .slice none 0 0, .slice none 0 0, .I 0, .string (⟨#[]⟩ : ByteArray), .slice none 0 0, .bool false]).p S w) :
 Calls Tryz.prog 16 #[.P jb 0, .slice a n ca] w (Ret fun v w' => Ext w w' ∧ v = .I 1) := by
 refine qS (fn := Tryz.f16) (n := 103) (σ := [(0, .P jb 0), (1, .slice a n ca)]) Tryz.func16 ?_
 have H := Hp.startF (w := w) (S := S) (G := [Fc jb 0 [.pointer none, .string (⟨#[]⟩ : ByteArray), .slice none 0 0, .slice none 0 0, .I 0, .string (⟨#[]⟩ : ByteArray), .slice none 0 0, .bool false]]) (.cons hF .nil)
 refine qR 4 [.c [1, 0, 0], .c [1, 0, 1], .c [2]] [(0, .P jb 0), (1, .slice a n ca)] ?_
 refine qG (sq 0 3) ?_
 refine qP 1 (sq 1 3) [(0, .P jb 0), (1, .slice a n ca), (12, .P jb 0)] ?_
 refine qK .seq (some 13) (sq 2 3) 54 #[.P jb 0] (jstate_zero (S := fun _ => True) (H.viewF 0 rfl)) ?_
 rintro _ w1 hE2 rfl
 have H := H.ext hE2
 refine qF 1 [(0, .P jb 0), (1, .slice a n ca), (5, .I 1)] ?_
 refine qR 5 [.c [1, 0, 2, 0, 1], .c [2]] [(4, .I 1)] ?_
 refine qT (.I 1) Tryz.func16 ?_
 exact ⟨_, rfl, H.done, rfl⟩
theorem jCheckpoint_nil {S : Nat → Prop} {w : World} {a : Option Addr} {n ca : Nat}  :
 Calls Tryz.prog 15 #[.pointer none, .slice a n ca] w (Ret fun v w' => Ext w w' ∧ v = .I 1) := by
 refine qS (fn := Tryz.f15) (n := 64) (σ := [(0, .pointer none), (1, .slice a n ca)]) Tryz.func15 ?_
 have H := Hp.startF (w := w) (S := S) (G := []) .nil
 refine qR 4 [.c [1, 0, 0], .c [1, 0, 1], .c [2]] [(0, .pointer none), (1, .slice a n ca)] ?_
 refine qG (sq 0 3) ?_
 refine qP 1 (sq 1 3) [(0, .pointer none), (1, .slice a n ca), (10, .pointer none)] ?_
 refine qK .seq (some 11) (sq 2 3) 54 #[.pointer none] (jstate_nil (S := fun _ => True)) ?_
 rintro _ w1 hE2 rfl
 have H := H.ext hE2
 refine qF 1 [(0, .pointer none), (1, .slice a n ca), (5, .I 1)] ?_
 refine qR 5 [.c [1, 0, 2, 0, 1], .c [2]] [(4, .I 1)] ?_
 refine qT (.I 1) Tryz.func15 ?_
 exact ⟨_, rfl, H.done, rfl⟩
theorem jCheckpoint_zero {S : Nat → Prop} {w : World} {jb : Nat} {a : Option Addr} {n ca : Nat} (hF : (Fc jb 0 [.pointer none, .string (⟨#[]⟩ : ByteArray), .slice none 0 0, .slice none 0 0, .I 0, .string (⟨#[]⟩ : ByteArray), .slice none 0 0, .bool false]).p S w) :
 Calls Tryz.prog 15 #[.P jb 0, .slice a n ca] w (Ret fun v w' => Ext w w' ∧ v = .I 1) := by
 refine qS (fn := Tryz.f15) (n := 64) (σ := [(0, .P jb 0), (1, .slice a n ca)]) Tryz.func15 ?_
 have H := Hp.startF (w := w) (S := S) (G := [Fc jb 0 [.pointer none, .string (⟨#[]⟩ : ByteArray), .slice none 0 0, .slice none 0 0, .I 0, .string (⟨#[]⟩ : ByteArray), .slice none 0 0, .bool false]]) (.cons hF .nil)
 refine qR 4 [.c [1, 0, 0], .c [1, 0, 1], .c [2]] [(0, .P jb 0), (1, .slice a n ca)] ?_
 refine qG (sq 0 3) ?_
 refine qP 1 (sq 1 3) [(0, .P jb 0), (1, .slice a n ca), (10, .P jb 0)] ?_
 refine qK .seq (some 11) (sq 2 3) 54 #[.P jb 0] (jstate_zero (S := fun _ => True) (H.viewF 0 rfl)) ?_
 rintro _ w1 hE2 rfl
 have H := H.ext hE2
 refine qF 1 [(0, .P jb 0), (1, .slice a n ca), (5, .I 1)] ?_
 refine qR 5 [.c [1, 0, 2, 0, 1], .c [2]] [(4, .I 1)] ?_
 refine qT (.I 1) Tryz.func15 ?_
 exact ⟨_, rfl, H.done, rfl⟩
theorem jSync_nil {S : Nat → Prop} {w : World}  :
 Calls Tryz.prog 20 #[.pointer none] w (Ret fun v w' => Ext w w' ∧ v = .I 1) := by
 refine qS (fn := Tryz.f20) (n := 31) (σ := [(0, .pointer none)]) Tryz.func20 ?_
 have H := Hp.startF (w := w) (S := S) (G := []) .nil
 refine qR 4 [.c [1, 0, 0], .c [1, 0, 1], .c [2]] [(0, .pointer none)] ?_
 refine qG (sq 0 3) ?_
 refine qP 1 (sq 1 3) [(0, .pointer none), (5, .pointer none)] ?_
 refine qK .seq (some 6) (sq 2 3) 54 #[.pointer none] (jstate_nil (S := fun _ => True)) ?_
 rintro _ w1 hE2 rfl
 have H := H.ext hE2
 refine qF 1 [(0, .pointer none), (3, .I 1)] ?_
 refine qR 5 [.c [1, 0, 2, 0, 1], .c [2]] [(2, .I 1)] ?_
 refine qT (.I 1) Tryz.func20 ?_
 exact ⟨_, rfl, H.done, rfl⟩
theorem jSync_zero {S : Nat → Prop} {w : World} {jb : Nat} (hF : (Fc jb 0 [.pointer none, .string (⟨#[]⟩ : ByteArray), .slice none 0 0, .slice none 0 0, .I 0, .string (⟨#[]⟩ : ByteArray), .slice none 0 0, .bool false]).p S w) :
 Calls Tryz.prog 20 #[.P jb 0] w (Ret fun v w' => Ext w w' ∧ v = .I 1) := by
 refine qS (fn := Tryz.f20) (n := 31) (σ := [(0, .P jb 0)]) Tryz.func20 ?_
 have H := Hp.startF (w := w) (S := S) (G := [Fc jb 0 [.pointer none, .string (⟨#[]⟩ : ByteArray), .slice none 0 0, .slice none 0 0, .I 0, .string (⟨#[]⟩ : ByteArray), .slice none 0 0, .bool false]]) (.cons hF .nil)
 refine qR 4 [.c [1, 0, 0], .c [1, 0, 1], .c [2]] [(0, .P jb 0)] ?_
 refine qG (sq 0 3) ?_
 refine qP 1 (sq 1 3) [(0, .P jb 0), (5, .P jb 0)] ?_
 refine qK .seq (some 6) (sq 2 3) 54 #[.P jb 0] (jstate_zero (S := fun _ => True) (H.viewF 0 rfl)) ?_
 rintro _ w1 hE2 rfl
 have H := H.ext hE2
 refine qF 1 [(0, .P jb 0), (3, .I 1)] ?_
 refine qR 5 [.c [1, 0, 2, 0, 1], .c [2]] [(2, .I 1)] ?_
 refine qT (.I 1) Tryz.func20 ?_
 exact ⟨_, rfl, H.done, rfl⟩
theorem jBase_nil {S : Nat → Prop} {w : World}  :
 Calls Tryz.prog 18 #[.pointer none] w (Ret fun v w' => Ext w w' ∧ v = .slice none 0 0) := by
 refine qS (fn := Tryz.f18) (n := 10) (σ := [(0, .pointer none)]) Tryz.func18 ?_
 have H := Hp.startF (w := w) (S := S) (G := []) .nil
 refine qR 8 [.c [1, 0, 1, 0, 1], .c [2]] [(2, .slice none 0 0)] ?_
 refine qT (.slice none 0 0) Tryz.func18 ?_
 exact ⟨_, rfl, H.done, rfl⟩
theorem jBase_zero {S : Nat → Prop} {w : World} {jb : Nat} (hF : (Fc jb 0 [.pointer none, .string (⟨#[]⟩ : ByteArray), .slice none 0 0, .slice none 0 0, .I 0, .string (⟨#[]⟩ : ByteArray), .slice none 0 0, .bool false]).p S w) :
 Calls Tryz.prog 18 #[.P jb 0] w (Ret fun v w' => Ext w w' ∧ ∃ (a' : Option Addr) (c' : Nat), v = .slice a' 0 c') := by
 refine qS (fn := Tryz.f18) (n := 10) (σ := [(0, .P jb 0)]) Tryz.func18 ?_
 have H := Hp.startF (w := w) (S := S) (G := [Fc jb 0 [.pointer none, .string (⟨#[]⟩ : ByteArray), .slice none 0 0, .slice none 0 0, .I 0, .string (⟨#[]⟩ : ByteArray), .slice none 0 0, .bool false], Rp SB [.slice none 0 0] ([] : List (BitVec 8))]) (.cons hF (.rp Shape.slice_nil .nil))
 refine qR 8 [.c [2, 0], .c [3]] [(0, .P jb 0)] ?_
 refine qG (sq 0 6) ?_
 refine qP 3 (sq 3 6) [(7, .P jb 2)] ?_
 refine qL .seq 8 (sq 4 6) 23 jb 2 2 (.slice none 0 0) (H.fc 0 rfl) ?_
 have H := H.ownNil Sb 5
 have H : Hp w S [] [] [⟨Sb, 5, .slice none 0 0, []⟩] [Fc jb 0 [.pointer none, .string (⟨#[]⟩ : ByteArray), .slice none 0 0, .slice none 0 0, .I 0, .string (⟨#[]⟩ : ByteArray), .slice none 0 0, .bool false], Rp SB [.slice none 0 0] ([] : List (BitVec 8))] _ := H
 refine RW.appendW (d := some 9) (r := (sq 5 6)) (T := 23) (ty := 23) (e := 5) (m := 1) (by_ := 1) (v := .slice none 0 0) (a2 := none) (l2 := 0) (c2 := 0) (zs := ([] : List (BitVec 8))) (by as_aux_lemma => kernel_rfl) (by as_aux_lemma => kernel_rfl) rfl H 0 rfl 1 rfl (rfl) (by simp) ?_
 intro a1 c2 w4 H hc3
 have H : Hp w S [] [] [⟨Sb, 5, .slice a1 (([] : List (BitVec 8)).length) c2, ([] : List (BitVec 8))⟩] [Fc jb 0 [.pointer none, .string (⟨#[]⟩ : ByteArray), .slice none 0 0, .slice none 0 0, .I 0, .string (⟨#[]⟩ : ByteArray), .slice none 0 0, .bool false], Rp SB [.slice none 0 0] ([] : List (BitVec 8))] _ := H
 refine qF 1 [(2, .slice a1 (([] : List (BitVec 8)).length) c2)] ?_
 refine qT (.slice a1 (([] : List (BitVec 8)).length) c2) Tryz.func18 ?_
 exact ⟨_, rfl, H.done, _, _, rfl⟩
theorem jRecords_nil {S : Nat → Prop} {w : World}  :
 Calls Tryz.prog 19 #[.pointer none] w (Ret fun v w' => Ext w w' ∧ v = .slice none 0 0) := by
 refine qS (fn := Tryz.f19) (n := 24) (σ := [(0, .pointer none)]) Tryz.func19 ?_
 have H := Hp.startF (w := w) (S := S) (G := []) .nil
 refine qR 8 [.c [1, 0, 1, 0, 1], .c [2]] [(2, .slice none 0 0)] ?_
 refine qT (.slice none 0 0) Tryz.func19 ?_
 exact ⟨_, rfl, H.done, rfl⟩
theorem jRecords_zero {S : Nat → Prop} {w : World} {jb : Nat} (hF : (Fc jb 0 [.pointer none, .string (⟨#[]⟩ : ByteArray), .slice none 0 0, .slice none 0 0, .I 0, .string (⟨#[]⟩ : ByteArray), .slice none 0 0, .bool false]).p S w) :
 Calls Tryz.prog 19 #[.P jb 0] w (Ret fun v w' => Ext w w' ∧ v = .slice none 0 0) := by
 refine qS (fn := Tryz.f19) (n := 24) (σ := [(0, .P jb 0)]) Tryz.func19 ?_
 have H := Hp.startF (w := w) (S := S) (G := [Fc jb 0 [.pointer none, .string (⟨#[]⟩ : ByteArray), .slice none 0 0, .slice none 0 0, .I 0, .string (⟨#[]⟩ : ByteArray), .slice none 0 0, .bool false]]) (.cons hF .nil)
 refine qR 11 [.c [3, 0, 0], .c [3, 0, 1], .c [4]] [(0, .P jb 0), (3, .slice none 0 0)] ?_
 refine qG (sq 0 6) ?_
 refine qP 3 (sq 3 6) [(3, .slice none 0 0), (10, .P jb 3)] ?_
 refine qL .seq 11 (sq 4 6) 22 jb 3 3 (.slice none 0 0) (H.fc 0 rfl) ?_
 refine qF 2 [(3, .slice none 0 0), (11, .slice none 0 0), (12, .I 0), (13, .I 0)] ?_
 refine qR 1 [.c [3, 0, 1, 0], .b 0, .c [4]] [(3, .slice none 0 0), (11, .slice none 0 0), (12, .I 0), (13, .I 0)] ?_
 refine WK.loop (α := Unit) (b := cd Tryz.prog 19 [3, 0, 1, 0, 0]) (by as_aux_lemma => kernel_rfl) (fun _ => [(3, .slice none 0 0), (11, .slice none 0 0), (12, .I 0), (13, .I 0)]) (fun _ w' => Hp w S [] [] [] [Fc jb 0 [.pointer none, .string (⟨#[]⟩ : ByteArray), .slice none 0 0, .slice none 0 0, .I 0, .string (⟨#[]⟩ : ByteArray), .slice none 0 0, .bool false]] w' ∧ True) (fun _ => 0) (()) ⟨H, trivial⟩ (rfl) ?_
 rintro _ w2 ⟨H, hinv0⟩ hback1
 refine qR 7 [.c [5]] [(2, .slice none 0 0)] ?_
 refine qT (.slice none 0 0) Tryz.func19 ?_
 exact ⟨_, rfl, H.done, rfl⟩
theorem jopen_nil {S : Nat → Prop} {w : World} (nm : ByteArray) :
 Calls Tryz.prog 14 #[.pointer none, .string nm] w (Ret fun v w' => Ext w w' ∧ v = .tuple #[.pointer none, .I 1]) := by
 refine qS (fn := Tryz.f14) (n := 34) (σ := [(0, .pointer none), (1, .string nm)]) Tryz.func14 ?_
 have H := Hp.startF (w := w) (S := S) (G := []) .nil
 refine qR 4 [.c [1, 0, 0], .c [1, 0, 1], .c [2]] [(0, .pointer none), (1, .string nm)] ?_
 refine qG (sq 0 7) ?_
 refine qP 1 (sq 1 7) [(0, .pointer none), (1, .string nm), (11, .pointer none)] ?_
 refine qK .seq (some 12) (sq 2 7) 49 #[.pointer none, .string (⟨#[]⟩ : ByteArray)] (noSize_nil (S := fun _ => True) (⟨#[]⟩ : ByteArray)) ?_
 rintro _ w1 hE2 rfl
 have H := H.ext hE2
 refine qF 5 [(0, .pointer none), (1, .string nm), (7, .I 1)] ?_
 refine qR 5 [.c [1, 0, 2, 0, 1], .c [2]] [(4, .pointer none), (5, .I 1)] ?_
 refine qT (.tuple #[.pointer none, .I 1]) Tryz.func14 ?_
 exact ⟨_, rfl, H.done, rfl⟩
theorem jopen_zero {S : Nat → Prop} {w : World} (nm : ByteArray) {db : Nat} (hF : (Fc db 0 [.bool false, .map none, .map none, .slice none 0 0, .bool false, .I 0, .bool false]).p S w) :
 Calls Tryz.prog 14 #[.P db 0, .string nm] w (Ret fun v w' => Ext w w' ∧ v = .tuple #[.pointer none, .I 1]) := by
 refine qS (fn := Tryz.f14) (n := 34) (σ := [(0, .P db 0), (1, .string nm)]) Tryz.func14 ?_
 have H := Hp.startF (w := w) (S := S) (G := [Fc db 0 [.bool false, .map none, .map none, .slice none 0 0, .bool false, .I 0, .bool false]]) (.cons hF .nil)
 refine qR 4 [.c [1, 0, 0], .c [1, 0, 1], .c [2]] [(0, .P db 0), (1, .string nm)] ?_
 refine qG (sq 0 7) ?_
 refine qP 1 (sq 1 7) [(0, .P db 0), (1, .string nm), (11, .P db 0)] ?_
 refine qK .seq (some 12) (sq 2 7) 49 #[.P db 0, .string (⟨#[]⟩ : ByteArray)] (noSize_zero (S := fun _ => True) (⟨#[]⟩ : ByteArray) (H.viewF 0 rfl)) ?_
 rintro _ w1 hE2 rfl
 have H := H.ext hE2
 refine qF 5 [(0, .P db 0), (1, .string nm), (7, .I 1)] ?_
 refine qR 5 [.c [1, 0, 2, 0, 1], .c [2]] [(4, .pointer none), (5, .I 1)] ?_
 refine qT (.tuple #[.pointer none, .I 1]) Tryz.func14 ?_
 exact ⟨_, rfl, H.done, rfl⟩
end Go.Proofs.YtdnibpclkhenmaaGreatDoor
