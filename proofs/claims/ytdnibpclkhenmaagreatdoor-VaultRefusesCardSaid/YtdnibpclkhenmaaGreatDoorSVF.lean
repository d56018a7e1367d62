import Derived.Test.YtdnibpclkhenmaaGreatDoorSBxA
import Derived.Test.YtdnibpclkhenmaaGreatDoorSVD
import Derived.Test.YtdnibpclkhenmaaGreatDoorSVE
namespace Go.Proofs.YtdnibpclkhenmaaGreatDoor
open Go.BX
theorem vstate_nil {S : Nat → Prop} {w : World}  :
 Calls Tryz.prog 90 #[.pointer none] w (Ret fun v w' => Ext w w' ∧ v = .I 1) := by
 refine uS1 Tryz.func90 ?_
 have H := Hp.startF (w := w) (S := S) (G := []) .nil
 refine uR 9 [.c [1, 0, 0, 1, 0, 1], .b 0, .c [2]] ?_
 refine qT (.I 1) Tryz.func90 ?_
 exact ⟨_, rfl, H.done, rfl⟩
theorem vstate_zero {S : Nat → Prop} {w : World} {vb : Nat} (h : (Fc vb 0 [.pointer none, .pointer none, .map none, .I 0, .I 0, .I 0]).p S w) :
 Calls Tryz.prog 90 #[.P vb 0] w (Ret fun v w' => Ext w w' ∧ v = .I 1) := by
 refine uS1 Tryz.func90 ?_
 have H := Hp.startF (w := w) (S := S) (G := [Fc vb 0 [.pointer none, .pointer none, .map none, .I 0, .I 0, .I 0]]) (.cons h .nil)
 refine uR 5 [.c [1, 0, 0, 0], .c [1, 0, 0, 1], .b 0, .c [2]] ?_
 refine qG (sq 0 10) ?_
 refine uP 6 ?_
 refine uV 24 1 (H.fc 0 rfl) ?_
 refine uF 3 ?_
 refine uR 3 [.c [1, 0, 0, 1, 0, 1], .b 0, .c [2]] ?_
 refine qT (.I 1) Tryz.func90 ?_
 exact ⟨_, rfl, H.done, rfl⟩
theorem vprep_nil {S : Nat → Prop} {w : World} {C : Chk} {ax : Option Addr} {cx : Nat}  :
 Calls Tryz.prog 39 #[.pointer none, .agg #[.int .u64 C.head.id.version, .I C.head.id.index, .int .u64 C.head.id.epoch, .I C.head.kk, .I C.head.nn, .I C.head.size, .int .u32 ((C.head.sum.toNat : Nat) : Int), .slice ax C.data.length cx, .bool C.done_]] w (Ret fun v w' => Ext w w' ∧ v = .I 1) := by
 refine uS1 Tryz.func39 ?_
 have H := Hp.startF (w := w) (S := S) (G := []) .nil
 refine uR 1 [.c [0], .c [1]] ?_
 refine qG (sq 0 2) ?_
 refine uC #[.int .u64 C.head.id.version, .I C.head.id.index, .int .u64 C.head.id.epoch, .I C.head.kk, .I C.head.nn, .I C.head.size, .int .u32 ((C.head.sum.toNat : Nat) : Int), .slice ax C.data.length cx, .bool C.done_] 102 H ?_
 intro _ _ H
 refine uF 1 ?_
 refine uR 2 [.c [1, 0, 0], .c [1, 0, 1], .c [2]] ?_
 refine qG (sq 0 3) ?_
 refine uP 1 ?_
 refine uK (vstate_nil (S := fun _ => True)) ?_
 rintro _ _ a rfl
 have H := H.ext a
 refine uF 1 ?_
 refine uR 5 [.c [1, 0, 2, 0, 1], .c [2]] ?_
 refine qT (.I 1) Tryz.func39 ?_
 exact ⟨_, rfl, H.done, rfl⟩
theorem vprep_zero {S : Nat → Prop} {w : World} {vb : Nat} {C : Chk} {ax : Option Addr} {cx : Nat} (h : (Fc vb 0 [.pointer none, .pointer none, .map none, .I 0, .I 0, .I 0]).p S w) :
 Calls Tryz.prog 39 #[.P vb 0, .agg #[.int .u64 C.head.id.version, .I C.head.id.index, .int .u64 C.head.id.epoch, .I C.head.kk, .I C.head.nn, .I C.head.size, .int .u32 ((C.head.sum.toNat : Nat) : Int), .slice ax C.data.length cx, .bool C.done_]] w (Ret fun v w' => Ext w w' ∧ v = .I 1) := by
 refine uS1 Tryz.func39 ?_
 have H := Hp.startF (w := w) (S := S) (G := [Fc vb 0 [.pointer none, .pointer none, .map none, .I 0, .I 0, .I 0]]) (.cons h .nil)
 refine uR 1 [.c [0], .c [1]] ?_
 refine qG (sq 0 2) ?_
 refine uC #[.int .u64 C.head.id.version, .I C.head.id.index, .int .u64 C.head.id.epoch, .I C.head.kk, .I C.head.nn, .I C.head.size, .int .u32 ((C.head.sum.toNat : Nat) : Int), .slice ax C.data.length cx, .bool C.done_] 102 H ?_
 intro _ _ H
 refine uF 1 ?_
 refine uR 2 [.c [1, 0, 0], .c [1, 0, 1], .c [2]] ?_
 refine qG (sq 0 3) ?_
 refine uP 1 ?_
 refine uK (vstate_zero (H.fact 0 rfl)) ?_
 rintro _ _ a rfl
 have H := H.ext a
 refine uF 1 ?_
 refine uR 5 [.c [1, 0, 2, 0, 1], .c [2]] ?_
 refine qT (.I 1) Tryz.func39 ?_
 exact ⟨_, rfl, H.done, rfl⟩
theorem vsettle_nil {S : Nat → Prop} {w : World} {D : CID}  :
 Calls Tryz.prog 45 #[.pointer none, .agg #[.int .u64 D.version, .I D.index, .int .u64 D.epoch]] w (Ret fun v w' => Ext w w' ∧ v = .I 1) := by
 refine uS1 Tryz.func45 ?_
 have H := Hp.startF (w := w) (S := S) (G := []) .nil
 refine uR 1 [.c [0], .c [1]] ?_
 refine qG (sq 0 2) ?_
 refine uC #[.int .u64 D.version, .I D.index, .int .u64 D.epoch] 82 H ?_
 intro _ _ H
 refine uF 1 ?_
 refine uR 2 [.c [1, 0, 0], .c [1, 0, 1], .c [2]] ?_
 refine qG (sq 0 3) ?_
 refine uP 1 ?_
 refine uK (vstate_nil (S := fun _ => True)) ?_
 rintro _ _ a rfl
 have H := H.ext a
 refine uF 1 ?_
 refine uR 5 [.c [1, 0, 2, 0, 1], .c [2]] ?_
 refine qT (.I 1) Tryz.func45 ?_
 exact ⟨_, rfl, H.done, rfl⟩
theorem vsettle_zero {S : Nat → Prop} {w : World} {vb : Nat} {D : CID} (h : (Fc vb 0 [.pointer none, .pointer none, .map none, .I 0, .I 0, .I 0]).p S w) :
 Calls Tryz.prog 45 #[.P vb 0, .agg #[.int .u64 D.version, .I D.index, .int .u64 D.epoch]] w (Ret fun v w' => Ext w w' ∧ v = .I 1) := by
 refine uS1 Tryz.func45 ?_
 have H := Hp.startF (w := w) (S := S) (G := [Fc vb 0 [.pointer none, .pointer none, .map none, .I 0, .I 0, .I 0]]) (.cons h .nil)
 refine uR 1 [.c [0], .c [1]] ?_
 refine qG (sq 0 2) ?_
 refine uC #[.int .u64 D.version, .I D.index, .int .u64 D.epoch] 82 H ?_
 intro _ _ H
 refine uF 1 ?_
 refine uR 2 [.c [1, 0, 0], .c [1, 0, 1], .c [2]] ?_
 refine qG (sq 0 3) ?_
 refine uP 1 ?_
 refine uK (vstate_zero (H.fact 0 rfl)) ?_
 rintro _ _ a rfl
 have H := H.ext a
 refine uF 1 ?_
 refine uR 5 [.c [1, 0, 2, 0, 1], .c [2]] ?_
 refine qT (.I 1) Tryz.func45 ?_
 exact ⟨_, rfl, H.done, rfl⟩
theorem vdrop_nil {S : Nat → Prop} {w : World} {D : CID}  :
 Calls Tryz.prog 43 #[.pointer none, .agg #[.int .u64 D.version, .I D.index, .int .u64 D.epoch]] w (Ret fun v w' => Ext w w' ∧ v = .I 1) := by
 refine uS1 Tryz.func43 ?_
 have H := Hp.startF (w := w) (S := S) (G := []) .nil
 refine uR 1 [.c [0], .c [1]] ?_
 refine qG (sq 0 2) ?_
 refine uC #[.int .u64 D.version, .I D.index, .int .u64 D.epoch] 82 H ?_
 intro _ _ H
 refine uF 1 ?_
 refine uR 2 [.c [1, 0, 0], .c [1, 0, 1], .c [2]] ?_
 refine qG (sq 0 3) ?_
 refine uP 1 ?_
 refine uK (vstate_nil (S := fun _ => True)) ?_
 rintro _ _ a rfl
 have H := H.ext a
 refine uF 1 ?_
 refine uR 5 [.c [1, 0, 2, 0, 1], .c [2]] ?_
 refine qT (.I 1) Tryz.func43 ?_
 exact ⟨_, rfl, H.done, rfl⟩
theorem vdrop_zero {S : Nat → Prop} {w : World} {vb : Nat} {D : CID} (h : (Fc vb 0 [.pointer none, .pointer none, .map none, .I 0, .I 0, .I 0]).p S w) :
 Calls Tryz.prog 43 #[.P vb 0, .agg #[.int .u64 D.version, .I D.index, .int .u64 D.epoch]] w (Ret fun v w' => Ext w w' ∧ v = .I 1) := by
 refine uS1 Tryz.func43 ?_
 have H := Hp.startF (w := w) (S := S) (G := [Fc vb 0 [.pointer none, .pointer none, .map none, .I 0, .I 0, .I 0]]) (.cons h .nil)
 refine uR 1 [.c [0], .c [1]] ?_
 refine qG (sq 0 2) ?_
 refine uC #[.int .u64 D.version, .I D.index, .int .u64 D.epoch] 82 H ?_
 intro _ _ H
 refine uF 1 ?_
 refine uR 2 [.c [1, 0, 0], .c [1, 0, 1], .c [2]] ?_
 refine qG (sq 0 3) ?_
 refine uP 1 ?_
 refine uK (vstate_zero (H.fact 0 rfl)) ?_
 rintro _ _ a rfl
 have H := H.ext a
 refine uF 1 ?_
 refine uR 5 [.c [1, 0, 2, 0, 1], .c [2]] ?_
 refine qT (.I 1) Tryz.func43 ?_
 exact ⟨_, rfl, H.done, rfl⟩
theorem vrot_nil {S : Nat → Prop} {w : World} {D : CID} {bit : Int}  :
 Calls Tryz.prog 41 #[.pointer none, .agg #[.int .u64 D.version, .I D.index, .int .u64 D.epoch], .I bit] w (Ret fun v w' => Ext w w' ∧ v = .I 1) := by
 refine uS1 Tryz.func41 ?_
 have H := Hp.startF (w := w) (S := S) (G := []) .nil
 refine uR 1 [.c [0], .c [1]] ?_
 refine qG (sq 0 2) ?_
 refine uC #[.int .u64 D.version, .I D.index, .int .u64 D.epoch] 82 H ?_
 intro _ _ H
 refine uF 1 ?_
 refine uR 2 [.c [1, 0, 0], .c [1, 0, 1], .c [2]] ?_
 refine qG (sq 0 3) ?_
 refine uP 1 ?_
 refine uK (vstate_nil (S := fun _ => True)) ?_
 rintro _ _ a rfl
 have H := H.ext a
 refine uF 1 ?_
 refine uR 5 [.c [1, 0, 2, 0, 1], .c [2]] ?_
 refine qT (.I 1) Tryz.func41 ?_
 exact ⟨_, rfl, H.done, rfl⟩
theorem vrot_zero {S : Nat → Prop} {w : World} {vb : Nat} {D : CID} {bit : Int} (h : (Fc vb 0 [.pointer none, .pointer none, .map none, .I 0, .I 0, .I 0]).p S w) :
 Calls Tryz.prog 41 #[.P vb 0, .agg #[.int .u64 D.version, .I D.index, .int .u64 D.epoch], .I bit] w (Ret fun v w' => Ext w w' ∧ v = .I 1) := by
 refine uS1 Tryz.func41 ?_
 have H := Hp.startF (w := w) (S := S) (G := [Fc vb 0 [.pointer none, .pointer none, .map none, .I 0, .I 0, .I 0]]) (.cons h .nil)
 refine uR 1 [.c [0], .c [1]] ?_
 refine qG (sq 0 2) ?_
 refine uC #[.int .u64 D.version, .I D.index, .int .u64 D.epoch] 82 H ?_
 intro _ _ H
 refine uF 1 ?_
 refine uR 2 [.c [1, 0, 0], .c [1, 0, 1], .c [2]] ?_
 refine qG (sq 0 3) ?_
 refine uP 1 ?_
 refine uK (vstate_zero (H.fact 0 rfl)) ?_
 rintro _ _ a rfl
 have H := H.ext a
 refine uF 1 ?_
 refine uR 5 [.c [1, 0, 2, 0, 1], .c [2]] ?_
 refine qT (.I 1) Tryz.func41 ?_
 exact ⟨_, rfl, H.done, rfl⟩
theorem vget_nil {S : Nat → Prop} {w : World} {D : CID}  :
 Calls Tryz.prog 40 #[.pointer none, .agg #[.int .u64 D.version, .I D.index, .int .u64 D.epoch]] w (Ret fun v w' => Ext w w' ∧ v = .tuple #[.agg #[.int .u64 0, .I 0, .int .u64 0, .I 0, .I 0, .I 0, .int .u32 (((0#32).toNat : Nat) : Int), .slice none 0 0, .bool false], .I 1]) := by
 refine uS1 Tryz.func40 ?_
 have H := Hp.startF (w := w) (S := S) (G := []) .nil
 refine uR 1 [.c [0], .c [1]] ?_
 refine qG (sq 0 3) ?_
 refine uC #[.int .u64 D.version, .I D.index, .int .u64 D.epoch] 82 H ?_
 intro _ _ H
 refine uC #[.int .u64 0, .I 0, .int .u64 0, .I 0, .I 0, .I 0, .int .u32 0, .slice none 0 0, .bool false] 102 H ?_
 intro _ _ H
 refine uF 1 ?_
 refine uR 2 [.c [1, 0, 0], .c [1, 0, 1], .c [2]] ?_
 refine qG (sq 0 3) ?_
 refine uP 1 ?_
 refine uK (vstate_nil (S := fun _ => True)) ?_
 rintro _ _ a rfl
 have H := H.ext a
 refine uF 1 ?_
 refine uR 4 [.c [1, 0, 2, 0, 0], .c [1, 0, 2, 0, 1], .c [2]] ?_
 refine qG (sq 0 4) ?_
 refine uP 2 ?_
 refine uW 102 0 #[.int .u64 0, .I 0, .int .u64 0, .I 0, .I 0, .I 0, .int .u32 0, .slice none 0 0, .bool false] H 0 rfl ?_
 intro _ H
 refine uF 1 ?_
 refine qRB (.tuple #[.agg #[.int .u64 0, .I 0, .int .u64 0, .I 0, .I 0, .I 0, .int .u32 0, .slice none 0 0, .bool false], .I 1]) Tryz.func40 (v2 (.cell 4 102) (.tmp 5) (vC (H.cells 0 rfl)) vT) ?_
 exact ⟨_, rfl, H.done, rfl⟩
theorem vget_zero {S : Nat → Prop} {w : World} {vb : Nat} {D : CID} (h : (Fc vb 0 [.pointer none, .pointer none, .map none, .I 0, .I 0, .I 0]).p S w) :
 Calls Tryz.prog 40 #[.P vb 0, .agg #[.int .u64 D.version, .I D.index, .int .u64 D.epoch]] w (Ret fun v w' => Ext w w' ∧ v = .tuple #[.agg #[.int .u64 0, .I 0, .int .u64 0, .I 0, .I 0, .I 0, .int .u32 (((0#32).toNat : Nat) : Int), .slice none 0 0, .bool false], .I 1]) := by
 refine uS1 Tryz.func40 ?_
 have H := Hp.startF (w := w) (S := S) (G := [Fc vb 0 [.pointer none, .pointer none, .map none, .I 0, .I 0, .I 0]]) (.cons h .nil)
 refine uR 1 [.c [0], .c [1]] ?_
 refine qG (sq 0 3) ?_
 refine uC #[.int .u64 D.version, .I D.index, .int .u64 D.epoch] 82 H ?_
 intro _ _ H
 refine uC #[.int .u64 0, .I 0, .int .u64 0, .I 0, .I 0, .I 0, .int .u32 0, .slice none 0 0, .bool false] 102 H ?_
 intro _ _ H
 refine uF 1 ?_
 refine uR 2 [.c [1, 0, 0], .c [1, 0, 1], .c [2]] ?_
 refine qG (sq 0 3) ?_
 refine uP 1 ?_
 refine uK (vstate_zero (H.fact 0 rfl)) ?_
 rintro _ _ a rfl
 have H := H.ext a
 refine uF 1 ?_
 refine uR 4 [.c [1, 0, 2, 0, 0], .c [1, 0, 2, 0, 1], .c [2]] ?_
 refine qG (sq 0 4) ?_
 refine uP 2 ?_
 refine uW 102 0 #[.int .u64 0, .I 0, .int .u64 0, .I 0, .I 0, .I 0, .int .u32 0, .slice none 0 0, .bool false] H 0 rfl ?_
 intro _ H
 refine uF 1 ?_
 refine qRB (.tuple #[.agg #[.int .u64 0, .I 0, .int .u64 0, .I 0, .I 0, .I 0, .int .u32 0, .slice none 0 0, .bool false], .I 1]) Tryz.func40 (v2 (.cell 4 102) (.tmp 5) (vC (H.cells 0 rfl)) vT) ?_
 exact ⟨_, rfl, H.done, rfl⟩
end Go.Proofs.YtdnibpclkhenmaaGreatDoor
