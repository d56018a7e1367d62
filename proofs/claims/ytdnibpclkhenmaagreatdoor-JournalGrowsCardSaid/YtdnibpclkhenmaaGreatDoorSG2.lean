import Derived.Test.YtdnibpclkhenmaaGreatDoorSG1
import Derived.Test.YtdnibpclkhenmaaGreatDoorSBxB
namespace Go.Proofs.YtdnibpclkhenmaaGreatDoor
open Go.BX
theorem stepIn_mk {k : Int} {f : Option Nat} {frm to : ByteArray} {at_ : Int} {d : Sec} (h1 : 0 ≤ k ∧ k ≤ 3) (h2 : 0 ≤ at_ ∧ at_ < 65536) (h3 : frm.size ≤ maxLen) (h4 : to.size ≤ maxLen) : StepIn ⟨k, f, frm, to, at_, d⟩ := ⟨h1, h2, h3, h4⟩
theorem write_new {S : Nat → Prop} {w : World} {O : List Nat} {db sb nb sk c : Nat} {sa : Option Addr} {L : NameL} {steps : List StepD} {armed : Bool} {left : Int} {name : ByteArray} (hs : name.size ≤ maxLen) {at_ : Int} {xs : List (BitVec 8)} {a : Option Addr} {ca : Nat} (hnm : nmI name = 1) (hat : 0 ≤ at_ ∧ at_ < 65536) (hxs : xs.length = 64) (hst : steps.length ≤ 1000000000) (hgo : armed = true → 1 ≤ left ∧ left ≤ 9223372036854775807) (hf : mfind name L = none) (hL : L.length < 256) (H0 : Hp w S O [(db, .cells #[.bool true, .map (some sb), .map (some nb), .slice sa steps.length sk, .bool armed, .I left, .bool false] 39 (0, 0)), (nb, mapO Value.string ptrV L c)] [⟨stepS, 143, .slice sa steps.length sk, steps⟩] [Rp SB [.slice a xs.length ca] xs] w) :
 Calls Tryz.prog 118 #[.P db 0, .string name, .I at_, .slice a xs.length ca] w (Ret fun v w' => v = .I 0 ∧ ∃ (p s n : Nat) (sa' : Option Addr) (sk' : Nat), Hp w S O ((db, .cells #[.bool true, .map (some sb), .map (some nb), .slice sa' (((steps ++ [(⟨0, some p, (⟨#[]⟩ : ByteArray), name, 0, zeroSec⟩ : StepD)] ++ [(⟨3, some p, (⟨#[]⟩ : ByteArray), (⟨#[]⟩ : ByteArray), at_, secOf xs⟩ : StepD)])).length) sk', .bool armed, .I (lf armed left), .bool false] 39 (0, 0)) :: (nb, mapO Value.string ptrV (mset name (some p) c L) (mclk name c L)) :: fileH (putB at_ (secOf xs) ⟨p, s, n, [], 0, [], 0, 0⟩)) [⟨stepS, 143, .slice sa' ((steps ++ [(⟨0, some p, (⟨#[]⟩ : ByteArray), name, 0, zeroSec⟩ : StepD)] ++ [(⟨3, some p, (⟨#[]⟩ : ByteArray), (⟨#[]⟩ : ByteArray), at_, secOf xs⟩ : StepD)])).length sk', (steps ++ [(⟨0, some p, (⟨#[]⟩ : ByteArray), name, 0, zeroSec⟩ : StepD)] ++ [(⟨3, some p, (⟨#[]⟩ : ByteArray), (⟨#[]⟩ : ByteArray), at_, secOf xs⟩ : StepD)])⟩] [] w') := by
 refine qS (fn := Tryz.f118) (n := 111) (σ := [(0, .P db 0), (1, .string name), (2, .I at_), (3, .slice a xs.length ca)]) Tryz.func118 ?_
 have H := H0
 refine qR 4 [.c [1, 0, 0], .c [1, 0, 1], .c [2]] [(0, .P db 0), (1, .string name), (2, .I at_), (3, .slice a xs.length ca)] ?_
 refine qG (sq 0 3) ?_
 refine qP 1 (sq 1 3) [(0, .P db 0), (1, .string name), (2, .I at_), (3, .slice a xs.length ca), (13, .P db 0)] ?_
 refine qK .seq (some 14) (sq 2 3) 104 #[.P db 0] (state_spec (S := fun _ => True) (made := true) (dead := false) (H.viewM 0 rfl (by simp))) ?_
 rintro _ w1 hE2 rfl
 have H := H.ext hE2
 refine qF 1 [(0, .P db 0), (1, .string name), (2, .I at_), (3, .slice a xs.length ca), (9, .I 0)] ?_
 refine qR 6 [.c [2, 0, 0], .c [2, 0, 1], .c [3]] [(0, .P db 0), (1, .string name), (2, .I at_), (3, .slice a xs.length ca)] ?_
 refine qG (sq 0 16) ?_
 refine qP 1 (sq 1 16) [(0, .P db 0), (1, .string name), (2, .I at_), (3, .slice a xs.length ca), (18, .string name)] ?_
 refine qK .seq (some 19) (sq 2 16) 167 #[.string name] (named_spec (S := fun _ => True) name hs) ?_
 rintro _ w3 hE4 rfl
 have H := H.ext hE4
 refine qP 2 (sq 4 16) [(0, .P db 0), (1, .string name), (2, .I at_), (3, .slice a xs.length ca), (21, .bool (!(decide (nmI name = 1))))] ?_
 refine RW.test (fun b_ => [(0, .P db 0), (1, .string name), (2, .I at_), (3, .slice a xs.length ca), (21, .bool b_)]) (!(decide (nmI name = 1))) (fun h5 => ?_) (fun h5 => ?_)
 ·
  replace h5 : (decide (nmI name = 1)) = false := by revert h5; cases (decide (nmI name = 1)) <;> simp
  replace h5 := of_decide_eq_false h5
  omega
 ·
  replace h5 : (decide (nmI name = 1)) = true := by revert h5; cases (decide (nmI name = 1)) <;> simp
  replace h5 := of_decide_eq_true h5
  refine qP 4 (sq 8 16) [(0, .P db 0), (1, .string name), (2, .I at_), (3, .slice a xs.length ca), (25, .bool (decide ((at_ : Int) < 0)))] ?_
  refine tD (fun b_ => [(0, .P db 0), (1, .string name), (2, .I at_), (3, .slice a xs.length ca), (25, .bool b_)]) ((at_ : Int) < 0) (fun h6 => ?_) (fun h6 => ?_)
  ·
   omega
  ·
   refine qP 4 (sq 12 16) [(0, .P db 0), (1, .string name), (2, .I at_), (3, .slice a xs.length ca), (29, .bool (decide ((at_ : Int) ≥ 65536)))] ?_
   refine tD (fun b_ => [(0, .P db 0), (1, .string name), (2, .I at_), (3, .slice a xs.length ca), (29, .bool b_)]) ((at_ : Int) ≥ 65536) (fun h7 => ?_) (fun h7 => ?_)
   ·
    omega
   ·
    refine qF 4 [(0, .P db 0), (1, .string name), (2, .I at_), (3, .slice a xs.length ca), (33, .bool (((xs.length : Nat) : Int) != 64))] ?_
    refine qN ((xs.length : Nat) : Int) 64 (fun h8 => ?_) (fun h8 => ?_)
    ·
     omega
    ·
     refine qR 2 [.c [3, 0], .c [4]] [(0, .P db 0), (1, .string name), (2, .I at_), (3, .slice a xs.length ca)] ?_
     refine qG (sq 0 11) ?_
     refine qP 3 (sq 3 11) [(0, .P db 0), (1, .string name), (2, .I at_), (3, .slice a xs.length ca), (37, .P db 2)] ?_
     refine qL .seq 38 (sq 4 11) 36 db 2 2 (.map (some nb)) (H.cells 0 rfl) ?_
     refine qP 1 (sq 5 11) [(0, .P db 0), (1, .string name), (2, .I at_), (3, .slice a xs.length ca), (38, .map (some nb)), (39, .string name)] ?_
     refine RW.mapGetF (κ := .seq) (d := some 40) (r := (sq 6 11)) (T := 36) (mk := Value.string) (vk := ptrV) (Kt := 9) (E := 139) (z := none) name true (none) (v := .tuple #[.pointer none, .bool false]) (by as_aux_lemma => kernel_rfl) H 1 rfl (KeyOk.str (by as_aux_lemma => kernel_rfl)) (by as_aux_lemma => kernel_rfl) (fun w_ => zeroE_run (by as_aux_lemma => kernel_rfl) w_) (hf) rfl ?_
     refine qF 5 [(0, .P db 0), (1, .string name), (2, .I at_), (3, .slice a xs.length ca), (10, .pointer none), (11, .bool false)] ?_
     refine qR 2 [.c [4, 0, 0], .c [4, 0, 1], .c [5]] [(0, .P db 0), (1, .string name), (2, .I at_), (3, .slice a xs.length ca), (10, .pointer none), (11, .bool false)] ?_
     refine qG (sq 0 10) ?_
     refine qP 6 (sq 6 10) [(0, .P db 0), (1, .string name), (2, .I at_), (3, .slice a xs.length ca), (10, .pointer none), (11, .bool false), (45, .bool true), (48, .P db 2)] ?_
     refine qL .seq 49 (sq 7 10) 36 db 2 2 (.map (some nb)) (H.cells 0 rfl) ?_
     refine RW.mapLen (κ := .seq) (d := some 50) (r := (sq 8 10)) (T := 36) (ts := #[36]) (t := 3) (mk := Value.string) (vk := ptrV) (Kt := 9) (E := 139) (by as_aux_lemma => kernel_rfl) H 1 rfl (by as_aux_lemma => kernel_rfl) (by as_aux_lemma => kernel_rfl) ?_
     refine qF 2 [(0, .P db 0), (1, .string name), (2, .I at_), (3, .slice a xs.length ca), (10, .pointer none), (11, .bool false), (52, .bool (decide ((((L.length : Nat) : Int) : Int) ≥ 256)))] ?_
     refine qD ((((L.length : Nat) : Int) : Int) ≥ 256) (fun h9 => ?_) (fun h9 => ?_)
     ·
      omega
     ·
      refine qR 3 [.c [5, 0, 0], .c [5, 0, 1], .c [6]] [(0, .P db 0), (1, .string name), (2, .I at_), (3, .slice a xs.length ca), (10, .pointer none), (11, .bool false)] ?_
      refine qG (sq 0 2) ?_
      refine qP 1 (sq 1 2) [(0, .P db 0), (1, .string name), (2, .I at_), (3, .slice a xs.length ca), (10, .pointer none), (11, .bool false), (53, .P db 0)] ?_
      refine RW.callS (d := some 54) (r := (sq 2 2)) (g := 119) (args := #[.P db 0]) (by as_aux_lemma => kernel_rfl) (spent_go hgo ((H.lend (M1 := [(db, .cells #[.bool true, .map (some sb), .map (some nb), .slice sa steps.length sk, .bool armed, .I left, .bool false] 39 (0, 0))]) (W1 := [])).pick [] rfl) ) ?_
      rintro _ w10 ⟨rfl, H'⟩
      have H := H.back (M1 := [(db, .cells #[.bool true, .map (some sb), .map (some nb), .slice sa steps.length sk, .bool armed, .I left, .bool false] 39 (0, 0))]) (W1 := []) H'
      have H : Hp w S O [(db, .cells #[.bool true, .map (some sb), .map (some nb), .slice sa steps.length sk, .bool armed, .I (lf armed left), .bool false] 39 (0, 0)), (nb, mapO Value.string ptrV L c)] [⟨stepS, 143, .slice sa steps.length sk, steps⟩] [Rp SB [.slice a xs.length ca] xs] _ := H
      refine qF 0 [(0, .P db 0), (1, .string name), (2, .I at_), (3, .slice a xs.length ca), (10, .pointer none), (11, .bool false), (54, .bool false)] ?_
      refine qR 7 [.c [6, 0, 1, 0, 0], .c [6, 0, 1, 0, 1], .c [7]] [(0, .P db 0), (1, .string name), (2, .I at_), (3, .slice a xs.length ca)] ?_
      refine qG (sq 0 5) ?_
      refine RW.new (κ := .seq) (d := some 57) (r := (sq 1 5)) (o := mapO (Value.int .i64) secVal ([] : List (Int × Sec × Nat)) 0) (v := fun b_ => .map (some b_)) (fun _ => by as_aux_lemma => kernel_rfl) (nofun) H ?_
      intro b11 w12 H
      refine RW.new (κ := .seq) (d := some 58) (r := (sq 2 5)) (o := mapO (Value.int .i64) secVal ([] : List (Int × Sec × Nat)) 0) (v := fun b_ => .map (some b_)) (fun _ => by as_aux_lemma => kernel_rfl) (nofun) H ?_
      intro b13 w14 H
      refine qP 1 (sq 3 5) [(0, .P db 0), (1, .string name), (2, .I at_), (3, .slice a xs.length ca), (59, .agg #[.map (some b11), .map (some b13), .I 0])] ?_
      refine qB .seq 60 (sq 4 5) #[.map (some b11), .map (some b13), .I 0] 147 H ?_
      intro b15 w16 H
      refine qF 1 [(0, .P db 0), (1, .string name), (2, .I at_), (3, .slice a xs.length ca), (10, .P b15 0)] ?_
      refine qR 1 [.c [6, 0, 1, 0, 1, 0], .c [6, 0, 1, 0, 2], .c [7]] [(0, .P db 0), (1, .string name), (2, .I at_), (3, .slice a xs.length ca), (10, .P b15 0)] ?_
      refine qG (sq 0 7) ?_
      refine qP 3 (sq 3 7) [(0, .P db 0), (1, .string name), (2, .I at_), (3, .slice a xs.length ca), (10, .P b15 0), (63, .P db 2)] ?_
      refine qL .seq 64 (sq 4 7) 36 db 2 2 (.map (some nb)) (H.cells 3 rfl) ?_
      refine qP 2 (sq 6 7) [(0, .P db 0), (1, .string name), (2, .I at_), (3, .slice a xs.length ca), (10, .P b15 0), (64, .map (some nb)), (65, .string name), (66, .P b15 0)] ?_
      refine RW.mapSet (d := none) (r := (sq 7 7)) (T := 36) (mk := Value.string) (vk := ptrV) (Kt := 9) (E := 139) (M' := [(b15, .cells #[.map (some b11), .map (some b13), .I 0] 147 (0, 0)), (b13, mapO (Value.int .i64) secVal ([] : List (Int × Sec × Nat)) 0), (b11, mapO (Value.int .i64) secVal ([] : List (Int × Sec × Nat)) 0), (db, .cells #[.bool true, .map (some sb), .map (some nb), .slice sa steps.length sk, .bool armed, .I (lf armed left), .bool false] 39 (0, 0)), (nb, mapO Value.string ptrV (mset name (some b15) c L) (mclk name c L))]) name (some b15) (by as_aux_lemma => kernel_rfl) H 4 rfl (KeyOk.str (by as_aux_lemma => kernel_rfl)) (by as_aux_lemma => kernel_rfl) rfl ?_
      intro w17 hCw17 H
      refine qF 0 [(0, .P db 0), (1, .string name), (2, .I at_), (3, .slice a xs.length ca), (10, .P b15 0)] ?_
      refine qG (sq 0 13) ?_
      refine qP 4 (sq 4 13) [(0, .P db 0), (1, .string name), (2, .I at_), (3, .slice a xs.length ca), (10, .P b15 0), (67, .P db 0), (70, .P db 3)] ?_
      refine qL .seq 71 (sq 5 13) 37 db 3 3 (.slice sa steps.length sk) (H.cells 3 rfl) ?_
      refine qP 3 (sq 8 13) [(0, .P db 0), (2, .I at_), (3, .slice a xs.length ca), (10, .P b15 0), (67, .P db 0), (71, .slice sa steps.length sk), (74, .agg (stepC (⟨0, (some b15), (⟨#[]⟩ : ByteArray), name, 0, zeroSec⟩ : StepD)).toArray)] ?_
      refine RW.new (κ := .seq) (d := some 75) (r := (sq 9 13)) (o := .cells (stepC (⟨0, (some b15), (⟨#[]⟩ : ByteArray), name, 0, zeroSec⟩ : StepD)).toArray 143 (0, 0)) (v := fun b => .slice (some ⟨b, 0, none⟩) 1 1) (fun b => by as_aux_lemma => kernel_rfl) (nofun) H ?_
      intro b18 w19 H
      have H := H.freeze 0 rfl stepS [(⟨0, (some b15), (⟨#[]⟩ : ByteArray), name, 0, zeroSec⟩ : StepD)] 1 (by simp [maxLen]) (by first | exact Nat.le_refl _ | simp) (EsP.cons (c := stepC (⟨0, (some b15), (⟨#[]⟩ : ByteArray), name, 0, zeroSec⟩ : StepD)) ⟨rfl, stepIn_mk (by decide) (by first | decide | omega) (Nat.zero_le _) (by first | exact Nat.zero_le _ | assumption)⟩ EsP.nil)
      have H : Hp w S O [(b15, .cells #[.map (some b11), .map (some b13), .I 0] 147 (0, 0)), (b13, mapO (Value.int .i64) secVal ([] : List (Int × Sec × Nat)) 0), (b11, mapO (Value.int .i64) secVal ([] : List (Int × Sec × Nat)) 0), (db, .cells #[.bool true, .map (some sb), .map (some nb), .slice sa steps.length sk, .bool armed, .I (lf armed left), .bool false] 39 (0, 0)), (nb, mapO Value.string ptrV (mset name (some b15) c L) (mclk name c L))] [⟨stepS, 143, .slice sa steps.length sk, steps⟩] [Rp (Shape.slice stepS) [.slice (some ⟨b18, 0, none⟩) 1 1] ([(⟨0, (some b15), (⟨#[]⟩ : ByteArray), name, 0, zeroSec⟩ : StepD)]), Rp SB [.slice a xs.length ca] xs] _ := H
      refine RW.appendW (d := some 76) (r := (sq 10 13)) (T := 37) (ty := 37) (e := 143) (m := 69) (by_ := 120) (v := .slice sa steps.length sk) (a2 := (some ⟨b18, 0, none⟩)) (l2 := 1) (c2 := 1) (zs := steps ++ ([(⟨0, (some b15), (⟨#[]⟩ : ByteArray), name, 0, zeroSec⟩ : StepD)])) (by as_aux_lemma => kernel_rfl) (by as_aux_lemma => kernel_rfl) rfl H 0 rfl 0 rfl (rfl) (by simp; omega) ?_
      intro a20 c21 w23 H hc22
      have H : Hp w S O [(b15, .cells #[.map (some b11), .map (some b13), .I 0] 147 (0, 0)), (b13, mapO (Value.int .i64) secVal ([] : List (Int × Sec × Nat)) 0), (b11, mapO (Value.int .i64) secVal ([] : List (Int × Sec × Nat)) 0), (db, .cells #[.bool true, .map (some sb), .map (some nb), .slice sa steps.length sk, .bool armed, .I (lf armed left), .bool false] 39 (0, 0)), (nb, mapO Value.string ptrV (mset name (some b15) c L) (mclk name c L))] [⟨stepS, 143, .slice a20 ((steps ++ ([(⟨0, (some b15), (⟨#[]⟩ : ByteArray), name, 0, zeroSec⟩ : StepD)])).length) c21, steps ++ ([(⟨0, (some b15), (⟨#[]⟩ : ByteArray), name, 0, zeroSec⟩ : StepD)])⟩] [Rp (Shape.slice stepS) [.slice (some ⟨b18, 0, none⟩) 1 1] ([(⟨0, (some b15), (⟨#[]⟩ : ByteArray), name, 0, zeroSec⟩ : StepD)]), Rp SB [.slice a xs.length ca] xs] _ := H
      refine qP 2 (sq 12 13) [(0, .P db 0), (2, .I at_), (3, .slice a xs.length ca), (10, .P b15 0), (76, .slice a20 ((steps ++ ([(⟨0, (some b15), (⟨#[]⟩ : ByteArray), name, 0, zeroSec⟩ : StepD)])).length) c21), (78, .P db 3)] ?_
      refine qW 37 db 3 (sq 13 13) (.slice a20 ((steps ++ ([(⟨0, (some b15), (⟨#[]⟩ : ByteArray), name, 0, zeroSec⟩ : StepD)])).length) c21) [(b15, .cells #[.map (some b11), .map (some b13), .I 0] 147 (0, 0)), (b13, mapO (Value.int .i64) secVal ([] : List (Int × Sec × Nat)) 0), (b11, mapO (Value.int .i64) secVal ([] : List (Int × Sec × Nat)) 0), (db, .cells #[.bool true, .map (some sb), .map (some nb), .slice a20 ((steps ++ ([(⟨0, (some b15), (⟨#[]⟩ : ByteArray), name, 0, zeroSec⟩ : StepD)])).length) c21, .bool armed, .I (lf armed left), .bool false] 39 (0, 0)), (nb, mapO Value.string ptrV (mset name (some b15) c L) (mclk name c L))] H 3 rfl rfl ?_
      intro w24 H
      refine qF 0 [(0, .P db 0), (2, .I at_), (3, .slice a xs.length ca), (10, .P b15 0)] ?_
      refine qR 1 [.c [7, 0], .c [8]] [(0, .P db 0), (2, .I at_), (3, .slice a xs.length ca), (10, .P b15 0)] ?_
      refine qG (sq 0 5) ?_
      refine qP 1 (sq 1 5) [(0, .P db 0), (2, .I at_), (10, .P b15 0), (79, .slice a xs.length ca)] ?_
      obtain ⟨b25, o26, ha_, hcell27⟩ := bytes_cells (H.viewF 1 rfl) (N := 64) (by omega) (by decide)
      refine RW.arrAt (κ := .seq) (d := some 80) (r := (sq 2 5)) (T := 141) (E := 5) (N := 64) (a := a) (len := xs.length) (cap := ca) (by as_aux_lemma => kernel_rfl) (by as_aux_lemma => kernel_rfl) (by omega) ?_
      rw [ha_]
      refine qL .seq 81 (sq 3 5) 141 b25 o26 0 (secVal (secOf xs)) hcell27 ?_
      refine qB .seq 12 (sq 4 5) ((secC zeroSec).toArray) 141 H ?_
      intro b28 w29 H
      refine qW 141 b28 0 (sq 5 5) (secVal (secOf xs)) [(b28, .cells (secC (secOf xs)).toArray 141 (0, 0)), (b15, .cells #[.map (some b11), .map (some b13), .I 0] 147 (0, 0)), (b13, mapO (Value.int .i64) secVal ([] : List (Int × Sec × Nat)) 0), (b11, mapO (Value.int .i64) secVal ([] : List (Int × Sec × Nat)) 0), (db, .cells #[.bool true, .map (some sb), .map (some nb), .slice a20 ((steps ++ ([(⟨0, (some b15), (⟨#[]⟩ : ByteArray), name, 0, zeroSec⟩ : StepD)])).length) c21, .bool armed, .I (lf armed left), .bool false] 39 (0, 0)), (nb, mapO Value.string ptrV (mset name (some b15) c L) (mclk name c L))] H 0 rfl rfl ?_
      intro w30 H
      refine qF 0 [(0, .P db 0), (2, .I at_), (10, .P b15 0), (12, .P b28 0)] ?_
      refine qR 1 [.c [8, 0], .c [9]] [(0, .P db 0), (2, .I at_), (10, .P b15 0), (12, .P b28 0)] ?_
      refine WK.draw1 6 (qs [0, 1, 2, 3, 4, 5]) [(0, .qui), (1, .qui), (2, .qui), (3, .qui), (4, .qui), (5, .qui), (6, .seq)] Tryz_mixed (by as_aux_lemma => kernel_rfl) (by as_aux_lemma => kernel_rfl) (by as_aux_lemma => kernel_rfl) ?_
      have H := H.draw
      generalize ({ w30 with drawn := w30.drawn + 1 } : World) = w31 at H ⊢
      refine qP 3 [(3, .qui), (4, .qui), (5, .qui), (6, .seq)] [(0, .P db 0), (2, .I at_), (10, .P b15 0), (12, .P b28 0), (84, .P b15 1)] ?_
      refine qL .qui 85 [(4, .qui), (5, .qui), (6, .seq)] 145 b15 1 1 (.map (some b13)) (H.cells 1 rfl) ?_
      refine qP 1 [(5, .qui), (6, .seq)] [(0, .P db 0), (2, .I at_), (10, .P b15 0), (12, .P b28 0), (85, .map (some b13)), (86, .I at_)] ?_
      refine qL .qui 87 [(6, .seq)] 141 b28 0 0 (secVal (secOf xs)) (H.cells 0 rfl) ?_
      refine RW.mapSet (d := none) (r := []) (T := 145) (mk := (Value.int .i64)) (vk := secVal) (Kt := 3) (E := 141) (M' := [(b28, .cells (secC (secOf xs)).toArray 141 (0, 0)), (b15, .cells #[.map (some b11), .map (some b13), .I 0] 147 (0, 0)), (b13, mapO (Value.int .i64) secVal (mset at_ (secOf xs) 0 ([] : List (Int × Sec × Nat))) (mclk at_ 0 ([] : List (Int × Sec × Nat)))), (b11, mapO (Value.int .i64) secVal ([] : List (Int × Sec × Nat)) 0), (db, .cells #[.bool true, .map (some sb), .map (some nb), .slice a20 ((steps ++ ([(⟨0, (some b15), (⟨#[]⟩ : ByteArray), name, 0, zeroSec⟩ : StepD)])).length) c21, .bool armed, .I (lf armed left), .bool false] 39 (0, 0)), (nb, mapO Value.string ptrV (mset name (some b15) c L) (mclk name c L))]) at_ (secOf xs) (by as_aux_lemma => kernel_rfl) H 2 rfl (KeyOk.int (by as_aux_lemma => kernel_rfl)) (by as_aux_lemma => kernel_rfl) rfl ?_
      intro w32 hCw32 H
      refine qF 0 [(0, .P db 0), (2, .I at_), (10, .P b15 0), (12, .P b28 0)] ?_
      refine qR 1 [.c [9, 0], .c [10]] [(0, .P db 0), (2, .I at_), (10, .P b15 0), (12, .P b28 0)] ?_
      refine qG (sq 0 11) ?_
      refine qP 4 (sq 4 11) [(0, .P db 0), (2, .I at_), (10, .P b15 0), (12, .P b28 0), (88, .P b15 0), (91, .P b15 2)] ?_
      refine qL .seq 92 (sq 5 11) 3 b15 2 2 (.I 0) (H.cells 1 rfl) ?_
      refine qP 1 (sq 6 11) [(0, .P db 0), (2, .I at_), (10, .P b15 0), (12, .P b28 0), (88, .P b15 0), (92, .I 0), (93, .I at_)] ?_
      refine qI .seq 94 (sq 7 11) (at_ + 1) ?_
      refine qP 3 (sq 10 11) [(0, .P db 0), (2, .I at_), (10, .P b15 0), (12, .P b28 0), (95, .I (if at_ + 1 > 0 then at_ + 1 else 0)), (97, .P b15 2)] ?_
      refine qW 3 b15 2 (sq 11 11) (.I (if at_ + 1 > 0 then at_ + 1 else 0)) [(b28, .cells (secC (secOf xs)).toArray 141 (0, 0)), (b15, .cells #[.map (some b11), .map (some b13), .I (if at_ + 1 > 0 then at_ + 1 else 0)] 147 (0, 0)), (b13, mapO (Value.int .i64) secVal (mset at_ (secOf xs) 0 ([] : List (Int × Sec × Nat))) (mclk at_ 0 ([] : List (Int × Sec × Nat)))), (b11, mapO (Value.int .i64) secVal ([] : List (Int × Sec × Nat)) 0), (db, .cells #[.bool true, .map (some sb), .map (some nb), .slice a20 ((steps ++ ([(⟨0, (some b15), (⟨#[]⟩ : ByteArray), name, 0, zeroSec⟩ : StepD)])).length) c21, .bool armed, .I (lf armed left), .bool false] 39 (0, 0)), (nb, mapO Value.string ptrV (mset name (some b15) c L) (mclk name c L))] H 1 rfl rfl ?_
      intro w33 H
      refine qF 0 [(0, .P db 0), (2, .I at_), (10, .P b15 0), (12, .P b28 0)] ?_
      refine qR 1 [.c [10, 0], .c [11]] [(0, .P db 0), (2, .I at_), (10, .P b15 0), (12, .P b28 0)] ?_
      refine WK.drawP1 10 [0, 1, 2, 3, 5, 6] [(104, .I at_), (103, .P b15 0), (101, .P db 3), (100, .P db 0), (99, .P db 0), (98, .P db 0), (0, .P db 0), (2, .I at_), (10, .P b15 0), (12, .P b28 0)] [(4, .qui), (7, .qui), (8, .qui), (9, .chn)] [(4, .qui), (7, .qui), (8, .qui), (9, .chn), (10, .seq), (11, .seq), (12, .seq), (13, .seq)] Tryz_mixed (by as_aux_lemma => kernel_rfl) (by as_aux_lemma => kernel_rfl) (by as_aux_lemma => kernel_rfl) (by as_aux_lemma => kernel_rfl) ?_
      have H := H.draw
      generalize ({ w33 with drawn := w33.drawn + 1 } : World) = w34 at H ⊢
      refine qL .qui 102 [(7, .qui), (8, .qui), (9, .chn), (10, .seq), (11, .seq), (12, .seq), (13, .seq)] 37 db 3 3 (.slice a20 ((steps ++ ([(⟨0, (some b15), (⟨#[]⟩ : ByteArray), name, 0, zeroSec⟩ : StepD)])).length) c21) (H.cells 4 rfl) ?_
      refine qL .qui 105 [(8, .qui), (9, .chn), (10, .seq), (11, .seq), (12, .seq), (13, .seq)] 141 b28 0 0 (secVal (secOf xs)) (H.cells 0 rfl) ?_
      refine qP 1 [(9, .chn), (10, .seq), (11, .seq), (12, .seq), (13, .seq)] [(98, .P db 0), (102, .slice a20 ((steps ++ ([(⟨0, (some b15), (⟨#[]⟩ : ByteArray), name, 0, zeroSec⟩ : StepD)])).length) c21), (106, .agg (stepC (⟨3, (some b15), (⟨#[]⟩ : ByteArray), (⟨#[]⟩ : ByteArray), at_, secOf xs⟩ : StepD)).toArray)] ?_
      refine RW.new (κ := .chn) (d := some 107) (r := [(10, .seq), (11, .seq), (12, .seq), (13, .seq)]) (o := .cells (stepC (⟨3, (some b15), (⟨#[]⟩ : ByteArray), (⟨#[]⟩ : ByteArray), at_, secOf xs⟩ : StepD)).toArray 143 (0, 0)) (v := fun b => .slice (some ⟨b, 0, none⟩) 1 1) (fun b => by as_aux_lemma => kernel_rfl) (nofun) H ?_
      intro b35 w36 H
      have H := H.freeze 0 rfl stepS [(⟨3, (some b15), (⟨#[]⟩ : ByteArray), (⟨#[]⟩ : ByteArray), at_, secOf xs⟩ : StepD)] 1 (by simp [maxLen]) (by first | exact Nat.le_refl _ | simp) (EsP.cons (c := stepC (⟨3, (some b15), (⟨#[]⟩ : ByteArray), (⟨#[]⟩ : ByteArray), at_, secOf xs⟩ : StepD)) ⟨rfl, stepIn_mk (by decide) (by first | decide | omega) (Nat.zero_le _) (by first | exact Nat.zero_le _ | assumption)⟩ EsP.nil)
      have H : Hp w S O [(b28, .cells (secC (secOf xs)).toArray 141 (0, 0)), (b15, .cells #[.map (some b11), .map (some b13), .I (if at_ + 1 > 0 then at_ + 1 else 0)] 147 (0, 0)), (b13, mapO (Value.int .i64) secVal (mset at_ (secOf xs) 0 ([] : List (Int × Sec × Nat))) (mclk at_ 0 ([] : List (Int × Sec × Nat)))), (b11, mapO (Value.int .i64) secVal ([] : List (Int × Sec × Nat)) 0), (db, .cells #[.bool true, .map (some sb), .map (some nb), .slice a20 ((steps ++ ([(⟨0, (some b15), (⟨#[]⟩ : ByteArray), name, 0, zeroSec⟩ : StepD)])).length) c21, .bool armed, .I (lf armed left), .bool false] 39 (0, 0)), (nb, mapO Value.string ptrV (mset name (some b15) c L) (mclk name c L))] [⟨stepS, 143, .slice a20 ((steps ++ ([(⟨0, (some b15), (⟨#[]⟩ : ByteArray), name, 0, zeroSec⟩ : StepD)])).length) c21, steps ++ ([(⟨0, (some b15), (⟨#[]⟩ : ByteArray), name, 0, zeroSec⟩ : StepD)])⟩] [Rp (Shape.slice stepS) [.slice (some ⟨b35, 0, none⟩) 1 1] ([(⟨3, (some b15), (⟨#[]⟩ : ByteArray), (⟨#[]⟩ : ByteArray), at_, secOf xs⟩ : StepD)]), Rp (Shape.slice stepS) [.slice (some ⟨b18, 0, none⟩) 1 1] ([(⟨0, (some b15), (⟨#[]⟩ : ByteArray), name, 0, zeroSec⟩ : StepD)]), Rp SB [.slice a xs.length ca] xs] _ := H
      refine RW.appendW (d := some 108) (r := [(11, .seq), (12, .seq), (13, .seq)]) (T := 37) (ty := 37) (e := 143) (m := 69) (by_ := 120) (v := .slice a20 ((steps ++ ([(⟨0, (some b15), (⟨#[]⟩ : ByteArray), name, 0, zeroSec⟩ : StepD)])).length) c21) (a2 := (some ⟨b35, 0, none⟩)) (l2 := 1) (c2 := 1) (zs := (steps ++ ([(⟨0, (some b15), (⟨#[]⟩ : ByteArray), name, 0, zeroSec⟩ : StepD)])) ++ ([(⟨3, (some b15), (⟨#[]⟩ : ByteArray), (⟨#[]⟩ : ByteArray), at_, secOf xs⟩ : StepD)])) (by as_aux_lemma => kernel_rfl) (by as_aux_lemma => kernel_rfl) rfl H 0 rfl 0 rfl (rfl) (by simp; omega) ?_
      intro a37 c38 w40 H hc39
      have H : Hp w S O [(b28, .cells (secC (secOf xs)).toArray 141 (0, 0)), (b15, .cells #[.map (some b11), .map (some b13), .I (if at_ + 1 > 0 then at_ + 1 else 0)] 147 (0, 0)), (b13, mapO (Value.int .i64) secVal (mset at_ (secOf xs) 0 ([] : List (Int × Sec × Nat))) (mclk at_ 0 ([] : List (Int × Sec × Nat)))), (b11, mapO (Value.int .i64) secVal ([] : List (Int × Sec × Nat)) 0), (db, .cells #[.bool true, .map (some sb), .map (some nb), .slice a20 ((steps ++ ([(⟨0, (some b15), (⟨#[]⟩ : ByteArray), name, 0, zeroSec⟩ : StepD)])).length) c21, .bool armed, .I (lf armed left), .bool false] 39 (0, 0)), (nb, mapO Value.string ptrV (mset name (some b15) c L) (mclk name c L))] [⟨stepS, 143, .slice a37 (((steps ++ ([(⟨0, (some b15), (⟨#[]⟩ : ByteArray), name, 0, zeroSec⟩ : StepD)])) ++ ([(⟨3, (some b15), (⟨#[]⟩ : ByteArray), (⟨#[]⟩ : ByteArray), at_, secOf xs⟩ : StepD)])).length) c38, (steps ++ ([(⟨0, (some b15), (⟨#[]⟩ : ByteArray), name, 0, zeroSec⟩ : StepD)])) ++ ([(⟨3, (some b15), (⟨#[]⟩ : ByteArray), (⟨#[]⟩ : ByteArray), at_, secOf xs⟩ : StepD)])⟩] [Rp (Shape.slice stepS) [.slice (some ⟨b35, 0, none⟩) 1 1] ([(⟨3, (some b15), (⟨#[]⟩ : ByteArray), (⟨#[]⟩ : ByteArray), at_, secOf xs⟩ : StepD)]), Rp (Shape.slice stepS) [.slice (some ⟨b18, 0, none⟩) 1 1] ([(⟨0, (some b15), (⟨#[]⟩ : ByteArray), name, 0, zeroSec⟩ : StepD)]), Rp SB [.slice a xs.length ca] xs] _ := H
      refine qP 2 [(13, .seq)] [(108, .slice a37 (((steps ++ ([(⟨0, (some b15), (⟨#[]⟩ : ByteArray), name, 0, zeroSec⟩ : StepD)])) ++ ([(⟨3, (some b15), (⟨#[]⟩ : ByteArray), (⟨#[]⟩ : ByteArray), at_, secOf xs⟩ : StepD)])).length) c38), (110, .P db 3)] ?_
      refine qW 37 db 3 [] (.slice a37 (((steps ++ ([(⟨0, (some b15), (⟨#[]⟩ : ByteArray), name, 0, zeroSec⟩ : StepD)])) ++ ([(⟨3, (some b15), (⟨#[]⟩ : ByteArray), (⟨#[]⟩ : ByteArray), at_, secOf xs⟩ : StepD)])).length) c38) [(b28, .cells (secC (secOf xs)).toArray 141 (0, 0)), (b15, .cells #[.map (some b11), .map (some b13), .I (if at_ + 1 > 0 then at_ + 1 else 0)] 147 (0, 0)), (b13, mapO (Value.int .i64) secVal (mset at_ (secOf xs) 0 ([] : List (Int × Sec × Nat))) (mclk at_ 0 ([] : List (Int × Sec × Nat)))), (b11, mapO (Value.int .i64) secVal ([] : List (Int × Sec × Nat)) 0), (db, .cells #[.bool true, .map (some sb), .map (some nb), .slice a37 (((steps ++ ([(⟨0, (some b15), (⟨#[]⟩ : ByteArray), name, 0, zeroSec⟩ : StepD)])) ++ ([(⟨3, (some b15), (⟨#[]⟩ : ByteArray), (⟨#[]⟩ : ByteArray), at_, secOf xs⟩ : StepD)])).length) c38, .bool armed, .I (lf armed left), .bool false] 39 (0, 0)), (nb, mapO Value.string ptrV (mset name (some b15) c L) (mclk name c L))] H 4 rfl rfl ?_
      intro w41 H
      refine qF 0 [] ?_
      refine qR 2 [.c [12]] [(8, .I 0)] ?_
      refine qT (.I 0) Tryz.func118 ?_
      have H := H.pick [] rfl
      have H := H.frontM 2 (M' := [(b13, mapO (Value.int .i64) secVal (mset at_ (secOf xs) 0 ([] : List (Int × Sec × Nat))) (mclk at_ 0 ([] : List (Int × Sec × Nat)))), (b28, .cells (secC (secOf xs)).toArray 141 (0, 0)), (b15, .cells #[.map (some b11), .map (some b13), .I (if at_ + 1 > 0 then at_ + 1 else 0)] 147 (0, 0)), (b11, mapO (Value.int .i64) secVal ([] : List (Int × Sec × Nat)) 0), (db, .cells #[.bool true, .map (some sb), .map (some nb), .slice a37 (((steps ++ ([(⟨0, (some b15), (⟨#[]⟩ : ByteArray), name, 0, zeroSec⟩ : StepD)])) ++ ([(⟨3, (some b15), (⟨#[]⟩ : ByteArray), (⟨#[]⟩ : ByteArray), at_, secOf xs⟩ : StepD)])).length) c38, .bool armed, .I (lf armed left), .bool false] 39 (0, 0)), (nb, mapO Value.string ptrV (mset name (some b15) c L) (mclk name c L))]) rfl
      have H := H.frontM 3 (M' := [(b11, mapO (Value.int .i64) secVal ([] : List (Int × Sec × Nat)) 0), (b13, mapO (Value.int .i64) secVal (mset at_ (secOf xs) 0 ([] : List (Int × Sec × Nat))) (mclk at_ 0 ([] : List (Int × Sec × Nat)))), (b28, .cells (secC (secOf xs)).toArray 141 (0, 0)), (b15, .cells #[.map (some b11), .map (some b13), .I (if at_ + 1 > 0 then at_ + 1 else 0)] 147 (0, 0)), (db, .cells #[.bool true, .map (some sb), .map (some nb), .slice a37 (((steps ++ ([(⟨0, (some b15), (⟨#[]⟩ : ByteArray), name, 0, zeroSec⟩ : StepD)])) ++ ([(⟨3, (some b15), (⟨#[]⟩ : ByteArray), (⟨#[]⟩ : ByteArray), at_, secOf xs⟩ : StepD)])).length) c38, .bool armed, .I (lf armed left), .bool false] 39 (0, 0)), (nb, mapO Value.string ptrV (mset name (some b15) c L) (mclk name c L))]) rfl
      have H := H.frontM 3 (M' := [(b15, .cells #[.map (some b11), .map (some b13), .I (if at_ + 1 > 0 then at_ + 1 else 0)] 147 (0, 0)), (b11, mapO (Value.int .i64) secVal ([] : List (Int × Sec × Nat)) 0), (b13, mapO (Value.int .i64) secVal (mset at_ (secOf xs) 0 ([] : List (Int × Sec × Nat))) (mclk at_ 0 ([] : List (Int × Sec × Nat)))), (b28, .cells (secC (secOf xs)).toArray 141 (0, 0)), (db, .cells #[.bool true, .map (some sb), .map (some nb), .slice a37 (((steps ++ ([(⟨0, (some b15), (⟨#[]⟩ : ByteArray), name, 0, zeroSec⟩ : StepD)])) ++ ([(⟨3, (some b15), (⟨#[]⟩ : ByteArray), (⟨#[]⟩ : ByteArray), at_, secOf xs⟩ : StepD)])).length) c38, .bool armed, .I (lf armed left), .bool false] 39 (0, 0)), (nb, mapO Value.string ptrV (mset name (some b15) c L) (mclk name c L))]) rfl
      have H := H.frontM 5 (M' := [(nb, mapO Value.string ptrV (mset name (some b15) c L) (mclk name c L)), (b15, .cells #[.map (some b11), .map (some b13), .I (if at_ + 1 > 0 then at_ + 1 else 0)] 147 (0, 0)), (b11, mapO (Value.int .i64) secVal ([] : List (Int × Sec × Nat)) 0), (b13, mapO (Value.int .i64) secVal (mset at_ (secOf xs) 0 ([] : List (Int × Sec × Nat))) (mclk at_ 0 ([] : List (Int × Sec × Nat)))), (b28, .cells (secC (secOf xs)).toArray 141 (0, 0)), (db, .cells #[.bool true, .map (some sb), .map (some nb), .slice a37 (((steps ++ ([(⟨0, (some b15), (⟨#[]⟩ : ByteArray), name, 0, zeroSec⟩ : StepD)])) ++ ([(⟨3, (some b15), (⟨#[]⟩ : ByteArray), (⟨#[]⟩ : ByteArray), at_, secOf xs⟩ : StepD)])).length) c38, .bool armed, .I (lf armed left), .bool false] 39 (0, 0))]) rfl
      have H := H.frontM 5 (M' := [(db, .cells #[.bool true, .map (some sb), .map (some nb), .slice a37 (((steps ++ ([(⟨0, (some b15), (⟨#[]⟩ : ByteArray), name, 0, zeroSec⟩ : StepD)])) ++ ([(⟨3, (some b15), (⟨#[]⟩ : ByteArray), (⟨#[]⟩ : ByteArray), at_, secOf xs⟩ : StepD)])).length) c38, .bool armed, .I (lf armed left), .bool false] 39 (0, 0)), (nb, mapO Value.string ptrV (mset name (some b15) c L) (mclk name c L)), (b15, .cells #[.map (some b11), .map (some b13), .I (if at_ + 1 > 0 then at_ + 1 else 0)] 147 (0, 0)), (b11, mapO (Value.int .i64) secVal ([] : List (Int × Sec × Nat)) 0), (b13, mapO (Value.int .i64) secVal (mset at_ (secOf xs) 0 ([] : List (Int × Sec × Nat))) (mclk at_ 0 ([] : List (Int × Sec × Nat)))), (b28, .cells (secC (secOf xs)).toArray 141 (0, 0))]) rfl
      have H := H.drop (M' := [(db, .cells #[.bool true, .map (some sb), .map (some nb), .slice a37 (((steps ++ ([(⟨0, (some b15), (⟨#[]⟩ : ByteArray), name, 0, zeroSec⟩ : StepD)])) ++ ([(⟨3, (some b15), (⟨#[]⟩ : ByteArray), (⟨#[]⟩ : ByteArray), at_, secOf xs⟩ : StepD)])).length) c38, .bool armed, .I (lf armed left), .bool false] 39 (0, 0)), (nb, mapO Value.string ptrV (mset name (some b15) c L) (mclk name c L)), (b15, .cells #[.map (some b11), .map (some b13), .I (if at_ + 1 > 0 then at_ + 1 else 0)] 147 (0, 0)), (b11, mapO (Value.int .i64) secVal ([] : List (Int × Sec × Nat)) 0), (b13, mapO (Value.int .i64) secVal (mset at_ (secOf xs) 0 ([] : List (Int × Sec × Nat))) (mclk at_ 0 ([] : List (Int × Sec × Nat))))]) (W' := [⟨stepS, 143, .slice a37 (((steps ++ ([(⟨0, (some b15), (⟨#[]⟩ : ByteArray), name, 0, zeroSec⟩ : StepD)])) ++ ([(⟨3, (some b15), (⟨#[]⟩ : ByteArray), (⟨#[]⟩ : ByteArray), at_, secOf xs⟩ : StepD)])).length) c38, (steps ++ ([(⟨0, (some b15), (⟨#[]⟩ : ByteArray), name, 0, zeroSec⟩ : StepD)])) ++ ([(⟨3, (some b15), (⟨#[]⟩ : ByteArray), (⟨#[]⟩ : ByteArray), at_, secOf xs⟩ : StepD)])⟩]) (by repeat (first | exact List.Sublist.refl _ | exact List.nil_sublist _ | apply List.Sublist.cons_cons | apply List.Sublist.cons)) (by repeat (first | exact List.Sublist.refl _ | exact List.nil_sublist _ | apply List.Sublist.cons_cons | apply List.Sublist.cons))
      exact ⟨_, rfl, rfl, b15, b11, b13, _, _, H⟩
theorem write_old {S : Nat → Prop} {w : World} {O : List Nat} {db sb nb sk c : Nat} {sa : Option Addr} {L : NameL} {steps : List StepD} {armed : Bool} {left : Int} {name : ByteArray} (hs : name.size ≤ maxLen) {at_ : Int} {xs : List (BitVec 8)} {a : Option Addr} {ca : Nat} {p s n xc yc : Nat} {X Y : List (Int × Sec × Nat)} {size : Int} (hnm : nmI name = 1) (hat : 0 ≤ at_ ∧ at_ < 65536) (hxs : xs.length = 64) (hst : steps.length ≤ 1000000000) (hgo : armed = true → 1 ≤ left ∧ left ≤ 9223372036854775807) (hf : mfind name L = some (some p)) (H0 : Hp w S O [(db, .cells #[.bool true, .map (some sb), .map (some nb), .slice sa steps.length sk, .bool armed, .I left, .bool false] 39 (0, 0)), (nb, mapO Value.string ptrV L c), (p, .cells #[.map (some s), .map (some n), .I size] 147 (0, 0)), (s, mapO (Value.int .i64) secVal X xc), (n, mapO (Value.int .i64) secVal Y yc)] [⟨stepS, 143, .slice sa steps.length sk, steps⟩] [Rp SB [.slice a xs.length ca] xs] w) :
 Calls Tryz.prog 118 #[.P db 0, .string name, .I at_, .slice a xs.length ca] w (Ret fun v w' => v = .I 0 ∧ ∃ (sa' : Option Addr) (sk' : Nat), Hp w S O ((db, .cells #[.bool true, .map (some sb), .map (some nb), .slice sa' (((steps ++ [(⟨3, some p, (⟨#[]⟩ : ByteArray), (⟨#[]⟩ : ByteArray), at_, secOf xs⟩ : StepD)])).length) sk', .bool armed, .I (lf armed left), .bool false] 39 (0, 0)) :: (nb, mapO Value.string ptrV L c) :: fileH (putB at_ (secOf xs) ⟨p, s, n, X, xc, Y, yc, size⟩)) [⟨stepS, 143, .slice sa' ((steps ++ [(⟨3, some p, (⟨#[]⟩ : ByteArray), (⟨#[]⟩ : ByteArray), at_, secOf xs⟩ : StepD)])).length sk', (steps ++ [(⟨3, some p, (⟨#[]⟩ : ByteArray), (⟨#[]⟩ : ByteArray), at_, secOf xs⟩ : StepD)])⟩] [] w') := by
 refine qS (fn := Tryz.f118) (n := 111) (σ := [(0, .P db 0), (1, .string name), (2, .I at_), (3, .slice a xs.length ca)]) Tryz.func118 ?_
 have H := H0
 refine qR 4 [.c [1, 0, 0], .c [1, 0, 1], .c [2]] [(0, .P db 0), (1, .string name), (2, .I at_), (3, .slice a xs.length ca)] ?_
 refine qG (sq 0 3) ?_
 refine qP 1 (sq 1 3) [(0, .P db 0), (1, .string name), (2, .I at_), (3, .slice a xs.length ca), (13, .P db 0)] ?_
 refine qK .seq (some 14) (sq 2 3) 104 #[.P db 0] (state_spec (S := fun _ => True) (made := true) (dead := false) (H.viewM 0 rfl (by simp))) ?_
 rintro _ w1 hE2 rfl
 have H := H.ext hE2
 refine qF 1 [(0, .P db 0), (1, .string name), (2, .I at_), (3, .slice a xs.length ca), (9, .I 0)] ?_
 refine qR 6 [.c [2, 0, 0], .c [2, 0, 1], .c [3]] [(0, .P db 0), (1, .string name), (2, .I at_), (3, .slice a xs.length ca)] ?_
 refine qG (sq 0 16) ?_
 refine qP 1 (sq 1 16) [(0, .P db 0), (1, .string name), (2, .I at_), (3, .slice a xs.length ca), (18, .string name)] ?_
 refine qK .seq (some 19) (sq 2 16) 167 #[.string name] (named_spec (S := fun _ => True) name hs) ?_
 rintro _ w3 hE4 rfl
 have H := H.ext hE4
 refine qP 2 (sq 4 16) [(0, .P db 0), (1, .string name), (2, .I at_), (3, .slice a xs.length ca), (21, .bool (!(decide (nmI name = 1))))] ?_
 refine RW.test (fun b_ => [(0, .P db 0), (1, .string name), (2, .I at_), (3, .slice a xs.length ca), (21, .bool b_)]) (!(decide (nmI name = 1))) (fun h5 => ?_) (fun h5 => ?_)
 ·
  replace h5 : (decide (nmI name = 1)) = false := by revert h5; cases (decide (nmI name = 1)) <;> simp
  replace h5 := of_decide_eq_false h5
  omega
 ·
  replace h5 : (decide (nmI name = 1)) = true := by revert h5; cases (decide (nmI name = 1)) <;> simp
  replace h5 := of_decide_eq_true h5
  refine qP 4 (sq 8 16) [(0, .P db 0), (1, .string name), (2, .I at_), (3, .slice a xs.length ca), (25, .bool (decide ((at_ : Int) < 0)))] ?_
  refine tD (fun b_ => [(0, .P db 0), (1, .string name), (2, .I at_), (3, .slice a xs.length ca), (25, .bool b_)]) ((at_ : Int) < 0) (fun h6 => ?_) (fun h6 => ?_)
  ·
   omega
  ·
   refine qP 4 (sq 12 16) [(0, .P db 0), (1, .string name), (2, .I at_), (3, .slice a xs.length ca), (29, .bool (decide ((at_ : Int) ≥ 65536)))] ?_
   refine tD (fun b_ => [(0, .P db 0), (1, .string name), (2, .I at_), (3, .slice a xs.length ca), (29, .bool b_)]) ((at_ : Int) ≥ 65536) (fun h7 => ?_) (fun h7 => ?_)
   ·
    omega
   ·
    refine qF 4 [(0, .P db 0), (1, .string name), (2, .I at_), (3, .slice a xs.length ca), (33, .bool (((xs.length : Nat) : Int) != 64))] ?_
    refine qN ((xs.length : Nat) : Int) 64 (fun h8 => ?_) (fun h8 => ?_)
    ·
     omega
    ·
     refine qR 2 [.c [3, 0], .c [4]] [(0, .P db 0), (1, .string name), (2, .I at_), (3, .slice a xs.length ca)] ?_
     refine qG (sq 0 11) ?_
     refine qP 3 (sq 3 11) [(0, .P db 0), (1, .string name), (2, .I at_), (3, .slice a xs.length ca), (37, .P db 2)] ?_
     refine qL .seq 38 (sq 4 11) 36 db 2 2 (.map (some nb)) (H.cells 0 rfl) ?_
     refine qP 1 (sq 5 11) [(0, .P db 0), (1, .string name), (2, .I at_), (3, .slice a xs.length ca), (38, .map (some nb)), (39, .string name)] ?_
     refine RW.mapGetF (κ := .seq) (d := some 40) (r := (sq 6 11)) (T := 36) (mk := Value.string) (vk := ptrV) (Kt := 9) (E := 139) (z := none) name true ((some (some p))) (v := .tuple #[.P p 0, .bool true]) (by as_aux_lemma => kernel_rfl) H 1 rfl (KeyOk.str (by as_aux_lemma => kernel_rfl)) (by as_aux_lemma => kernel_rfl) (fun w_ => zeroE_run (by as_aux_lemma => kernel_rfl) w_) (hf) rfl ?_
     refine qF 5 [(0, .P db 0), (1, .string name), (2, .I at_), (3, .slice a xs.length ca), (10, .P p 0), (11, .bool true)] ?_
     refine qR 7 [.c [5, 0, 0], .c [5, 0, 1], .c [6]] [(0, .P db 0), (1, .string name), (2, .I at_), (3, .slice a xs.length ca), (10, .P p 0), (11, .bool true)] ?_
     refine qG (sq 0 2) ?_
     refine qP 1 (sq 1 2) [(0, .P db 0), (1, .string name), (2, .I at_), (3, .slice a xs.length ca), (10, .P p 0), (11, .bool true), (53, .P db 0)] ?_
     refine RW.callS (d := some 54) (r := (sq 2 2)) (g := 119) (args := #[.P db 0]) (by as_aux_lemma => kernel_rfl) (spent_go hgo ((H.lend (M1 := [(db, .cells #[.bool true, .map (some sb), .map (some nb), .slice sa steps.length sk, .bool armed, .I left, .bool false] 39 (0, 0))]) (W1 := [])).pick [] rfl) ) ?_
     rintro _ w9 ⟨rfl, H'⟩
     have H := H.back (M1 := [(db, .cells #[.bool true, .map (some sb), .map (some nb), .slice sa steps.length sk, .bool armed, .I left, .bool false] 39 (0, 0))]) (W1 := []) H'
     have H : Hp w S O [(db, .cells #[.bool true, .map (some sb), .map (some nb), .slice sa steps.length sk, .bool armed, .I (lf armed left), .bool false] 39 (0, 0)), (nb, mapO Value.string ptrV L c), (p, .cells #[.map (some s), .map (some n), .I size] 147 (0, 0)), (s, mapO (Value.int .i64) secVal X xc), (n, mapO (Value.int .i64) secVal Y yc)] [⟨stepS, 143, .slice sa steps.length sk, steps⟩] [Rp SB [.slice a xs.length ca] xs] _ := H
     refine qF 0 [(0, .P db 0), (1, .string name), (2, .I at_), (3, .slice a xs.length ca), (10, .P p 0), (11, .bool true), (54, .bool false)] ?_
     refine qR 8 [.c [7, 0], .c [8]] [(0, .P db 0), (2, .I at_), (3, .slice a xs.length ca), (10, .P p 0)] ?_
     refine qG (sq 0 5) ?_
     refine qP 1 (sq 1 5) [(0, .P db 0), (2, .I at_), (10, .P p 0), (79, .slice a xs.length ca)] ?_
     obtain ⟨b10, o11, ha_, hcell12⟩ := bytes_cells (H.viewF 0 rfl) (N := 64) (by omega) (by decide)
     refine RW.arrAt (κ := .seq) (d := some 80) (r := (sq 2 5)) (T := 141) (E := 5) (N := 64) (a := a) (len := xs.length) (cap := ca) (by as_aux_lemma => kernel_rfl) (by as_aux_lemma => kernel_rfl) (by omega) ?_
     rw [ha_]
     refine qL .seq 81 (sq 3 5) 141 b10 o11 0 (secVal (secOf xs)) hcell12 ?_
     refine qB .seq 12 (sq 4 5) ((secC zeroSec).toArray) 141 H ?_
     intro b13 w14 H
     refine qW 141 b13 0 (sq 5 5) (secVal (secOf xs)) [(b13, .cells (secC (secOf xs)).toArray 141 (0, 0)), (db, .cells #[.bool true, .map (some sb), .map (some nb), .slice sa steps.length sk, .bool armed, .I (lf armed left), .bool false] 39 (0, 0)), (nb, mapO Value.string ptrV L c), (p, .cells #[.map (some s), .map (some n), .I size] 147 (0, 0)), (s, mapO (Value.int .i64) secVal X xc), (n, mapO (Value.int .i64) secVal Y yc)] H 0 rfl rfl ?_
     intro w15 H
     refine qF 0 [(0, .P db 0), (2, .I at_), (10, .P p 0), (12, .P b13 0)] ?_
     refine qR 1 [.c [8, 0], .c [9]] [(0, .P db 0), (2, .I at_), (10, .P p 0), (12, .P b13 0)] ?_
     refine WK.draw1 6 (qs [0, 1, 2, 3, 4, 5]) [(0, .qui), (1, .qui), (2, .qui), (3, .qui), (4, .qui), (5, .qui), (6, .seq)] Tryz_mixed (by as_aux_lemma => kernel_rfl) (by as_aux_lemma => kernel_rfl) (by as_aux_lemma => kernel_rfl) ?_
     have H := H.draw
     generalize ({ w15 with drawn := w15.drawn + 1 } : World) = w16 at H ⊢
     refine qP 3 [(3, .qui), (4, .qui), (5, .qui), (6, .seq)] [(0, .P db 0), (2, .I at_), (10, .P p 0), (12, .P b13 0), (84, .P p 1)] ?_
     refine qL .qui 85 [(4, .qui), (5, .qui), (6, .seq)] 145 p 1 1 (.map (some n)) (H.cells 3 rfl) ?_
     refine qP 1 [(5, .qui), (6, .seq)] [(0, .P db 0), (2, .I at_), (10, .P p 0), (12, .P b13 0), (85, .map (some n)), (86, .I at_)] ?_
     refine qL .qui 87 [(6, .seq)] 141 b13 0 0 (secVal (secOf xs)) (H.cells 0 rfl) ?_
     refine RW.mapSet (d := none) (r := []) (T := 145) (mk := (Value.int .i64)) (vk := secVal) (Kt := 3) (E := 141) (M' := [(b13, .cells (secC (secOf xs)).toArray 141 (0, 0)), (db, .cells #[.bool true, .map (some sb), .map (some nb), .slice sa steps.length sk, .bool armed, .I (lf armed left), .bool false] 39 (0, 0)), (nb, mapO Value.string ptrV L c), (p, .cells #[.map (some s), .map (some n), .I size] 147 (0, 0)), (s, mapO (Value.int .i64) secVal X xc), (n, mapO (Value.int .i64) secVal (mset at_ (secOf xs) yc Y) (mclk at_ yc Y))]) at_ (secOf xs) (by as_aux_lemma => kernel_rfl) H 5 rfl (KeyOk.int (by as_aux_lemma => kernel_rfl)) (by as_aux_lemma => kernel_rfl) rfl ?_
     intro w17 hCw17 H
     refine qF 0 [(0, .P db 0), (2, .I at_), (10, .P p 0), (12, .P b13 0)] ?_
     refine qR 1 [.c [9, 0], .c [10]] [(0, .P db 0), (2, .I at_), (10, .P p 0), (12, .P b13 0)] ?_
     refine qG (sq 0 11) ?_
     refine qP 4 (sq 4 11) [(0, .P db 0), (2, .I at_), (10, .P p 0), (12, .P b13 0), (88, .P p 0), (91, .P p 2)] ?_
     refine qL .seq 92 (sq 5 11) 3 p 2 2 (.I size) (H.cells 3 rfl) ?_
     refine qP 1 (sq 6 11) [(0, .P db 0), (2, .I at_), (10, .P p 0), (12, .P b13 0), (88, .P p 0), (92, .I size), (93, .I at_)] ?_
     refine qI .seq 94 (sq 7 11) (at_ + 1) ?_
     refine qP 3 (sq 10 11) [(0, .P db 0), (2, .I at_), (10, .P p 0), (12, .P b13 0), (95, .I (if at_ + 1 > size then at_ + 1 else size)), (97, .P p 2)] ?_
     refine qW 3 p 2 (sq 11 11) (.I (if at_ + 1 > size then at_ + 1 else size)) [(b13, .cells (secC (secOf xs)).toArray 141 (0, 0)), (db, .cells #[.bool true, .map (some sb), .map (some nb), .slice sa steps.length sk, .bool armed, .I (lf armed left), .bool false] 39 (0, 0)), (nb, mapO Value.string ptrV L c), (p, .cells #[.map (some s), .map (some n), .I (if at_ + 1 > size then at_ + 1 else size)] 147 (0, 0)), (s, mapO (Value.int .i64) secVal X xc), (n, mapO (Value.int .i64) secVal (mset at_ (secOf xs) yc Y) (mclk at_ yc Y))] H 3 rfl rfl ?_
     intro w18 H
     refine qF 0 [(0, .P db 0), (2, .I at_), (10, .P p 0), (12, .P b13 0)] ?_
     refine qR 1 [.c [10, 0], .c [11]] [(0, .P db 0), (2, .I at_), (10, .P p 0), (12, .P b13 0)] ?_
     refine WK.drawP1 10 [0, 1, 2, 3, 5, 6] [(104, .I at_), (103, .P p 0), (101, .P db 3), (100, .P db 0), (99, .P db 0), (98, .P db 0), (0, .P db 0), (2, .I at_), (10, .P p 0), (12, .P b13 0)] [(4, .qui), (7, .qui), (8, .qui), (9, .chn)] [(4, .qui), (7, .qui), (8, .qui), (9, .chn), (10, .seq), (11, .seq), (12, .seq), (13, .seq)] Tryz_mixed (by as_aux_lemma => kernel_rfl) (by as_aux_lemma => kernel_rfl) (by as_aux_lemma => kernel_rfl) (by as_aux_lemma => kernel_rfl) ?_
     have H := H.draw
     generalize ({ w18 with drawn := w18.drawn + 1 } : World) = w19 at H ⊢
     refine qL .qui 102 [(7, .qui), (8, .qui), (9, .chn), (10, .seq), (11, .seq), (12, .seq), (13, .seq)] 37 db 3 3 (.slice sa steps.length sk) (H.cells 1 rfl) ?_
     refine qL .qui 105 [(8, .qui), (9, .chn), (10, .seq), (11, .seq), (12, .seq), (13, .seq)] 141 b13 0 0 (secVal (secOf xs)) (H.cells 0 rfl) ?_
     refine qP 1 [(9, .chn), (10, .seq), (11, .seq), (12, .seq), (13, .seq)] [(98, .P db 0), (102, .slice sa steps.length sk), (106, .agg (stepC (⟨3, (some p), (⟨#[]⟩ : ByteArray), (⟨#[]⟩ : ByteArray), at_, secOf xs⟩ : StepD)).toArray)] ?_
     refine RW.new (κ := .chn) (d := some 107) (r := [(10, .seq), (11, .seq), (12, .seq), (13, .seq)]) (o := .cells (stepC (⟨3, (some p), (⟨#[]⟩ : ByteArray), (⟨#[]⟩ : ByteArray), at_, secOf xs⟩ : StepD)).toArray 143 (0, 0)) (v := fun b => .slice (some ⟨b, 0, none⟩) 1 1) (fun b => by as_aux_lemma => kernel_rfl) (nofun) H ?_
     intro b20 w21 H
     have H := H.freeze 0 rfl stepS [(⟨3, (some p), (⟨#[]⟩ : ByteArray), (⟨#[]⟩ : ByteArray), at_, secOf xs⟩ : StepD)] 1 (by simp [maxLen]) (by first | exact Nat.le_refl _ | simp) (EsP.cons (c := stepC (⟨3, (some p), (⟨#[]⟩ : ByteArray), (⟨#[]⟩ : ByteArray), at_, secOf xs⟩ : StepD)) ⟨rfl, stepIn_mk (by decide) (by first | decide | omega) (Nat.zero_le _) (by first | exact Nat.zero_le _ | assumption)⟩ EsP.nil)
     have H : Hp w S O [(b13, .cells (secC (secOf xs)).toArray 141 (0, 0)), (db, .cells #[.bool true, .map (some sb), .map (some nb), .slice sa steps.length sk, .bool armed, .I (lf armed left), .bool false] 39 (0, 0)), (nb, mapO Value.string ptrV L c), (p, .cells #[.map (some s), .map (some n), .I (if at_ + 1 > size then at_ + 1 else size)] 147 (0, 0)), (s, mapO (Value.int .i64) secVal X xc), (n, mapO (Value.int .i64) secVal (mset at_ (secOf xs) yc Y) (mclk at_ yc Y))] [⟨stepS, 143, .slice sa steps.length sk, steps⟩] [Rp (Shape.slice stepS) [.slice (some ⟨b20, 0, none⟩) 1 1] ([(⟨3, (some p), (⟨#[]⟩ : ByteArray), (⟨#[]⟩ : ByteArray), at_, secOf xs⟩ : StepD)]), Rp SB [.slice a xs.length ca] xs] _ := H
     refine RW.appendW (d := some 108) (r := [(11, .seq), (12, .seq), (13, .seq)]) (T := 37) (ty := 37) (e := 143) (m := 69) (by_ := 120) (v := .slice sa steps.length sk) (a2 := (some ⟨b20, 0, none⟩)) (l2 := 1) (c2 := 1) (zs := steps ++ ([(⟨3, (some p), (⟨#[]⟩ : ByteArray), (⟨#[]⟩ : ByteArray), at_, secOf xs⟩ : StepD)])) (by as_aux_lemma => kernel_rfl) (by as_aux_lemma => kernel_rfl) rfl H 0 rfl 0 rfl (rfl) (by simp; omega) ?_
     intro a22 c23 w25 H hc24
     have H : Hp w S O [(b13, .cells (secC (secOf xs)).toArray 141 (0, 0)), (db, .cells #[.bool true, .map (some sb), .map (some nb), .slice sa steps.length sk, .bool armed, .I (lf armed left), .bool false] 39 (0, 0)), (nb, mapO Value.string ptrV L c), (p, .cells #[.map (some s), .map (some n), .I (if at_ + 1 > size then at_ + 1 else size)] 147 (0, 0)), (s, mapO (Value.int .i64) secVal X xc), (n, mapO (Value.int .i64) secVal (mset at_ (secOf xs) yc Y) (mclk at_ yc Y))] [⟨stepS, 143, .slice a22 ((steps ++ ([(⟨3, (some p), (⟨#[]⟩ : ByteArray), (⟨#[]⟩ : ByteArray), at_, secOf xs⟩ : StepD)])).length) c23, steps ++ ([(⟨3, (some p), (⟨#[]⟩ : ByteArray), (⟨#[]⟩ : ByteArray), at_, secOf xs⟩ : StepD)])⟩] [Rp (Shape.slice stepS) [.slice (some ⟨b20, 0, none⟩) 1 1] ([(⟨3, (some p), (⟨#[]⟩ : ByteArray), (⟨#[]⟩ : ByteArray), at_, secOf xs⟩ : StepD)]), Rp SB [.slice a xs.length ca] xs] _ := H
     refine qP 2 [(13, .seq)] [(108, .slice a22 ((steps ++ ([(⟨3, (some p), (⟨#[]⟩ : ByteArray), (⟨#[]⟩ : ByteArray), at_, secOf xs⟩ : StepD)])).length) c23), (110, .P db 3)] ?_
     refine qW 37 db 3 [] (.slice a22 ((steps ++ ([(⟨3, (some p), (⟨#[]⟩ : ByteArray), (⟨#[]⟩ : ByteArray), at_, secOf xs⟩ : StepD)])).length) c23) [(b13, .cells (secC (secOf xs)).toArray 141 (0, 0)), (db, .cells #[.bool true, .map (some sb), .map (some nb), .slice a22 ((steps ++ ([(⟨3, (some p), (⟨#[]⟩ : ByteArray), (⟨#[]⟩ : ByteArray), at_, secOf xs⟩ : StepD)])).length) c23, .bool armed, .I (lf armed left), .bool false] 39 (0, 0)), (nb, mapO Value.string ptrV L c), (p, .cells #[.map (some s), .map (some n), .I (if at_ + 1 > size then at_ + 1 else size)] 147 (0, 0)), (s, mapO (Value.int .i64) secVal X xc), (n, mapO (Value.int .i64) secVal (mset at_ (secOf xs) yc Y) (mclk at_ yc Y))] H 1 rfl rfl ?_
     intro w26 H
     refine qF 0 [] ?_
     refine qR 2 [.c [12]] [(8, .I 0)] ?_
     refine qT (.I 0) Tryz.func118 ?_
     have H := H.pick [] rfl
     have H := H.frontM 5 (M' := [(n, mapO (Value.int .i64) secVal (mset at_ (secOf xs) yc Y) (mclk at_ yc Y)), (b13, .cells (secC (secOf xs)).toArray 141 (0, 0)), (db, .cells #[.bool true, .map (some sb), .map (some nb), .slice a22 ((steps ++ ([(⟨3, (some p), (⟨#[]⟩ : ByteArray), (⟨#[]⟩ : ByteArray), at_, secOf xs⟩ : StepD)])).length) c23, .bool armed, .I (lf armed left), .bool false] 39 (0, 0)), (nb, mapO Value.string ptrV L c), (p, .cells #[.map (some s), .map (some n), .I (if at_ + 1 > size then at_ + 1 else size)] 147 (0, 0)), (s, mapO (Value.int .i64) secVal X xc)]) rfl
     have H := H.frontM 5 (M' := [(s, mapO (Value.int .i64) secVal X xc), (n, mapO (Value.int .i64) secVal (mset at_ (secOf xs) yc Y) (mclk at_ yc Y)), (b13, .cells (secC (secOf xs)).toArray 141 (0, 0)), (db, .cells #[.bool true, .map (some sb), .map (some nb), .slice a22 ((steps ++ ([(⟨3, (some p), (⟨#[]⟩ : ByteArray), (⟨#[]⟩ : ByteArray), at_, secOf xs⟩ : StepD)])).length) c23, .bool armed, .I (lf armed left), .bool false] 39 (0, 0)), (nb, mapO Value.string ptrV L c), (p, .cells #[.map (some s), .map (some n), .I (if at_ + 1 > size then at_ + 1 else size)] 147 (0, 0))]) rfl
     have H := H.frontM 5 (M' := [(p, .cells #[.map (some s), .map (some n), .I (if at_ + 1 > size then at_ + 1 else size)] 147 (0, 0)), (s, mapO (Value.int .i64) secVal X xc), (n, mapO (Value.int .i64) secVal (mset at_ (secOf xs) yc Y) (mclk at_ yc Y)), (b13, .cells (secC (secOf xs)).toArray 141 (0, 0)), (db, .cells #[.bool true, .map (some sb), .map (some nb), .slice a22 ((steps ++ ([(⟨3, (some p), (⟨#[]⟩ : ByteArray), (⟨#[]⟩ : ByteArray), at_, secOf xs⟩ : StepD)])).length) c23, .bool armed, .I (lf armed left), .bool false] 39 (0, 0)), (nb, mapO Value.string ptrV L c)]) rfl
     have H := H.frontM 5 (M' := [(nb, mapO Value.string ptrV L c), (p, .cells #[.map (some s), .map (some n), .I (if at_ + 1 > size then at_ + 1 else size)] 147 (0, 0)), (s, mapO (Value.int .i64) secVal X xc), (n, mapO (Value.int .i64) secVal (mset at_ (secOf xs) yc Y) (mclk at_ yc Y)), (b13, .cells (secC (secOf xs)).toArray 141 (0, 0)), (db, .cells #[.bool true, .map (some sb), .map (some nb), .slice a22 ((steps ++ ([(⟨3, (some p), (⟨#[]⟩ : ByteArray), (⟨#[]⟩ : ByteArray), at_, secOf xs⟩ : StepD)])).length) c23, .bool armed, .I (lf armed left), .bool false] 39 (0, 0))]) rfl
     have H := H.frontM 5 (M' := [(db, .cells #[.bool true, .map (some sb), .map (some nb), .slice a22 ((steps ++ ([(⟨3, (some p), (⟨#[]⟩ : ByteArray), (⟨#[]⟩ : ByteArray), at_, secOf xs⟩ : StepD)])).length) c23, .bool armed, .I (lf armed left), .bool false] 39 (0, 0)), (nb, mapO Value.string ptrV L c), (p, .cells #[.map (some s), .map (some n), .I (if at_ + 1 > size then at_ + 1 else size)] 147 (0, 0)), (s, mapO (Value.int .i64) secVal X xc), (n, mapO (Value.int .i64) secVal (mset at_ (secOf xs) yc Y) (mclk at_ yc Y)), (b13, .cells (secC (secOf xs)).toArray 141 (0, 0))]) rfl
     have H := H.drop (M' := [(db, .cells #[.bool true, .map (some sb), .map (some nb), .slice a22 ((steps ++ ([(⟨3, (some p), (⟨#[]⟩ : ByteArray), (⟨#[]⟩ : ByteArray), at_, secOf xs⟩ : StepD)])).length) c23, .bool armed, .I (lf armed left), .bool false] 39 (0, 0)), (nb, mapO Value.string ptrV L c), (p, .cells #[.map (some s), .map (some n), .I (if at_ + 1 > size then at_ + 1 else size)] 147 (0, 0)), (s, mapO (Value.int .i64) secVal X xc), (n, mapO (Value.int .i64) secVal (mset at_ (secOf xs) yc Y) (mclk at_ yc Y))]) (W' := [⟨stepS, 143, .slice a22 ((steps ++ ([(⟨3, (some p), (⟨#[]⟩ : ByteArray), (⟨#[]⟩ : ByteArray), at_, secOf xs⟩ : StepD)])).length) c23, steps ++ ([(⟨3, (some p), (⟨#[]⟩ : ByteArray), (⟨#[]⟩ : ByteArray), at_, secOf xs⟩ : StepD)])⟩]) (by repeat (first | exact List.Sublist.refl _ | exact List.nil_sublist _ | apply List.Sublist.cons_cons | apply List.Sublist.cons)) (by repeat (first | exact List.Sublist.refl _ | exact List.nil_sublist _ | apply List.Sublist.cons_cons | apply List.Sublist.cons))
     exact ⟨_, rfl, rfl, _, _, H⟩
theorem write_bad {S : Nat → Prop} {w : World} {O : List Nat} {db sk sn : Nat} {nv : Option Nat} {sv : Option Nat} {sa : Option Addr} {armed : Bool} {left : Int} {name : ByteArray} (hs : name.size ≤ maxLen) {at_ : Int} {xs : List (BitVec 8)} {a : Option Addr} {ca : Nat} (hat : -9223372036854775808 ≤ at_ ∧ at_ ≤ 9223372036854775807) (hb : nmI name ≠ 1 ∨ at_ < 0 ∨ 65536 ≤ at_ ∨ xs.length ≠ 64) (H0 : Hp w S O [(db, .cells #[.bool true, .map sv, .map nv, .slice sa sn sk, .bool armed, .I left, .bool false] 39 (0, 0))] [] [Rp SB [.slice a xs.length ca] xs] w) :
 Calls Tryz.prog 118 #[.P db 0, .string name, .I at_, .slice a xs.length ca] w (Ret fun v w' => v = .I 2 ∧ Hp w S O [(db, .cells #[.bool true, .map sv, .map nv, .slice sa sn sk, .bool armed, .I left, .bool false] 39 (0, 0))] [] [] w') := by
 refine qS (fn := Tryz.f118) (n := 111) (σ := [(0, .P db 0), (1, .string name), (2, .I at_), (3, .slice a xs.length ca)]) Tryz.func118 ?_
 have H := H0
 refine qR 4 [.c [1, 0, 0], .c [1, 0, 1], .c [2]] [(0, .P db 0), (1, .string name), (2, .I at_), (3, .slice a xs.length ca)] ?_
 refine qG (sq 0 3) ?_
 refine qP 1 (sq 1 3) [(0, .P db 0), (1, .string name), (2, .I at_), (3, .slice a xs.length ca), (13, .P db 0)] ?_
 refine qK .seq (some 14) (sq 2 3) 104 #[.P db 0] (state_spec (S := fun _ => True) (made := true) (dead := false) (H.viewM 0 rfl (by simp))) ?_
 rintro _ w1 hE2 rfl
 have H := H.ext hE2
 refine qF 1 [(0, .P db 0), (1, .string name), (2, .I at_), (3, .slice a xs.length ca), (9, .I 0)] ?_
 refine qR 6 [.c [2, 0, 0], .c [2, 0, 1], .c [3]] [(0, .P db 0), (1, .string name), (2, .I at_), (3, .slice a xs.length ca)] ?_
 refine qG (sq 0 16) ?_
 refine qP 1 (sq 1 16) [(0, .P db 0), (1, .string name), (2, .I at_), (3, .slice a xs.length ca), (18, .string name)] ?_
 refine qK .seq (some 19) (sq 2 16) 167 #[.string name] (named_spec (S := fun _ => True) name hs) ?_
 rintro _ w3 hE4 rfl
 have H := H.ext hE4
 refine qP 2 (sq 4 16) [(0, .P db 0), (1, .string name), (2, .I at_), (3, .slice a xs.length ca), (21, .bool (!(decide (nmI name = 1))))] ?_
 refine RW.test (fun b_ => [(0, .P db 0), (1, .string name), (2, .I at_), (3, .slice a xs.length ca), (21, .bool b_)]) (!(decide (nmI name = 1))) (fun h5 => ?_) (fun h5 => ?_)
 ·
  replace h5 : (decide (nmI name = 1)) = false := by revert h5; cases (decide (nmI name = 1)) <;> simp
  replace h5 := of_decide_eq_false h5
  refine qF 12 [(0, .P db 0), (1, .string name), (2, .I at_), (3, .slice a xs.length ca), (33, .bool true)] ?_
  refine qR 3 [.c [2, 0, 1, 0, 1], .c [3]] [(8, .I 2)] ?_
  refine qT (.I 2) Tryz.func118 ?_
  have H := H.pick [] rfl
  exact ⟨_, rfl, rfl, H⟩
 ·
  replace h5 : (decide (nmI name = 1)) = true := by revert h5; cases (decide (nmI name = 1)) <;> simp
  replace h5 := of_decide_eq_true h5
  refine qP 4 (sq 8 16) [(0, .P db 0), (1, .string name), (2, .I at_), (3, .slice a xs.length ca), (25, .bool (decide ((at_ : Int) < 0)))] ?_
  refine tD (fun b_ => [(0, .P db 0), (1, .string name), (2, .I at_), (3, .slice a xs.length ca), (25, .bool b_)]) ((at_ : Int) < 0) (fun h6 => ?_) (fun h6 => ?_)
  ·
   refine qF 8 [(0, .P db 0), (1, .string name), (2, .I at_), (3, .slice a xs.length ca), (33, .bool true)] ?_
   refine qR 3 [.c [2, 0, 1, 0, 1], .c [3]] [(8, .I 2)] ?_
   refine qT (.I 2) Tryz.func118 ?_
   have H := H.pick [] rfl
   exact ⟨_, rfl, rfl, H⟩
  ·
   refine qP 4 (sq 12 16) [(0, .P db 0), (1, .string name), (2, .I at_), (3, .slice a xs.length ca), (29, .bool (decide ((at_ : Int) ≥ 65536)))] ?_
   refine tD (fun b_ => [(0, .P db 0), (1, .string name), (2, .I at_), (3, .slice a xs.length ca), (29, .bool b_)]) ((at_ : Int) ≥ 65536) (fun h7 => ?_) (fun h7 => ?_)
   ·
    refine qF 4 [(0, .P db 0), (1, .string name), (2, .I at_), (3, .slice a xs.length ca), (33, .bool true)] ?_
    refine qR 3 [.c [2, 0, 1, 0, 1], .c [3]] [(8, .I 2)] ?_
    refine qT (.I 2) Tryz.func118 ?_
    have H := H.pick [] rfl
    exact ⟨_, rfl, rfl, H⟩
   ·
    refine qF 4 [(0, .P db 0), (1, .string name), (2, .I at_), (3, .slice a xs.length ca), (33, .bool (((xs.length : Nat) : Int) != 64))] ?_
    refine qN ((xs.length : Nat) : Int) 64 (fun h8 => ?_) (fun h8 => ?_)
    ·
     refine qR 2 [.c [2, 0, 1, 0, 1], .c [3]] [(8, .I 2)] ?_
     refine qT (.I 2) Tryz.func118 ?_
     have H := H.pick [] rfl
     exact ⟨_, rfl, rfl, H⟩
    ·
     omega
theorem write_full {S : Nat → Prop} {w : World} {O : List Nat} {db nb sk c sn : Nat} {sv : Option Nat} {sa : Option Addr} {L : NameL} {armed : Bool} {left : Int} {name : ByteArray} (hs : name.size ≤ maxLen) {at_ : Int} {xs : List (BitVec 8)} {a : Option Addr} {ca : Nat} (hnm : nmI name = 1) (hat : 0 ≤ at_ ∧ at_ < 65536) (hxs : xs.length = 64) (hf : mfind name L = none) (hL : 256 ≤ L.length) (H0 : Hp w S O [(db, .cells #[.bool true, .map sv, .map (some nb), .slice sa sn sk, .bool armed, .I left, .bool false] 39 (0, 0)), (nb, mapO Value.string ptrV L c)] [] [Rp SB [.slice a xs.length ca] xs] w) :
 Calls Tryz.prog 118 #[.P db 0, .string name, .I at_, .slice a xs.length ca] w (Ret fun v w' => v = .I 72 ∧ Hp w S O [(db, .cells #[.bool true, .map sv, .map (some nb), .slice sa sn sk, .bool armed, .I left, .bool false] 39 (0, 0)), (nb, mapO Value.string ptrV L c)] [] [] w') := by
 refine qS (fn := Tryz.f118) (n := 111) (σ := [(0, .P db 0), (1, .string name), (2, .I at_), (3, .slice a xs.length ca)]) Tryz.func118 ?_
 have H := H0
 refine qR 4 [.c [1, 0, 0], .c [1, 0, 1], .c [2]] [(0, .P db 0), (1, .string name), (2, .I at_), (3, .slice a xs.length ca)] ?_
 refine qG (sq 0 3) ?_
 refine qP 1 (sq 1 3) [(0, .P db 0), (1, .string name), (2, .I at_), (3, .slice a xs.length ca), (13, .P db 0)] ?_
 refine qK .seq (some 14) (sq 2 3) 104 #[.P db 0] (state_spec (S := fun _ => True) (made := true) (dead := false) (H.viewM 0 rfl (by simp))) ?_
 rintro _ w1 hE2 rfl
 have H := H.ext hE2
 refine qF 1 [(0, .P db 0), (1, .string name), (2, .I at_), (3, .slice a xs.length ca), (9, .I 0)] ?_
 refine qR 6 [.c [2, 0, 0], .c [2, 0, 1], .c [3]] [(0, .P db 0), (1, .string name), (2, .I at_), (3, .slice a xs.length ca)] ?_
 refine qG (sq 0 16) ?_
 refine qP 1 (sq 1 16) [(0, .P db 0), (1, .string name), (2, .I at_), (3, .slice a xs.length ca), (18, .string name)] ?_
 refine qK .seq (some 19) (sq 2 16) 167 #[.string name] (named_spec (S := fun _ => True) name hs) ?_
 rintro _ w3 hE4 rfl
 have H := H.ext hE4
 refine qP 2 (sq 4 16) [(0, .P db 0), (1, .string name), (2, .I at_), (3, .slice a xs.length ca), (21, .bool (!(decide (nmI name = 1))))] ?_
 refine RW.test (fun b_ => [(0, .P db 0), (1, .string name), (2, .I at_), (3, .slice a xs.length ca), (21, .bool b_)]) (!(decide (nmI name = 1))) (fun h5 => ?_) (fun h5 => ?_)
 ·
  replace h5 : (decide (nmI name = 1)) = false := by revert h5; cases (decide (nmI name = 1)) <;> simp
  replace h5 := of_decide_eq_false h5
  omega
 ·
  replace h5 : (decide (nmI name = 1)) = true := by revert h5; cases (decide (nmI name = 1)) <;> simp
  replace h5 := of_decide_eq_true h5
  refine qP 4 (sq 8 16) [(0, .P db 0), (1, .string name), (2, .I at_), (3, .slice a xs.length ca), (25, .bool (decide ((at_ : Int) < 0)))] ?_
  refine tD (fun b_ => [(0, .P db 0), (1, .string name), (2, .I at_), (3, .slice a xs.length ca), (25, .bool b_)]) ((at_ : Int) < 0) (fun h6 => ?_) (fun h6 => ?_)
  ·
   omega
  ·
   refine qP 4 (sq 12 16) [(0, .P db 0), (1, .string name), (2, .I at_), (3, .slice a xs.length ca), (29, .bool (decide ((at_ : Int) ≥ 65536)))] ?_
   refine tD (fun b_ => [(0, .P db 0), (1, .string name), (2, .I at_), (3, .slice a xs.length ca), (29, .bool b_)]) ((at_ : Int) ≥ 65536) (fun h7 => ?_) (fun h7 => ?_)
   ·
    omega
   ·
    refine qF 4 [(0, .P db 0), (1, .string name), (2, .I at_), (3, .slice a xs.length ca), (33, .bool (((xs.length : Nat) : Int) != 64))] ?_
    refine qN ((xs.length : Nat) : Int) 64 (fun h8 => ?_) (fun h8 => ?_)
    ·
     omega
    ·
     refine qR 2 [.c [3, 0], .c [4]] [(0, .P db 0), (1, .string name), (2, .I at_), (3, .slice a xs.length ca)] ?_
     refine qG (sq 0 11) ?_
     refine qP 3 (sq 3 11) [(0, .P db 0), (1, .string name), (2, .I at_), (3, .slice a xs.length ca), (37, .P db 2)] ?_
     refine qL .seq 38 (sq 4 11) 36 db 2 2 (.map (some nb)) (H.cells 0 rfl) ?_
     refine qP 1 (sq 5 11) [(0, .P db 0), (1, .string name), (2, .I at_), (3, .slice a xs.length ca), (38, .map (some nb)), (39, .string name)] ?_
     refine RW.mapGetF (κ := .seq) (d := some 40) (r := (sq 6 11)) (T := 36) (mk := Value.string) (vk := ptrV) (Kt := 9) (E := 139) (z := none) name true (none) (v := .tuple #[.pointer none, .bool false]) (by as_aux_lemma => kernel_rfl) H 1 rfl (KeyOk.str (by as_aux_lemma => kernel_rfl)) (by as_aux_lemma => kernel_rfl) (fun w_ => zeroE_run (by as_aux_lemma => kernel_rfl) w_) (hf) rfl ?_
     refine qF 5 [(0, .P db 0), (1, .string name), (2, .I at_), (3, .slice a xs.length ca), (10, .pointer none), (11, .bool false)] ?_
     refine qR 2 [.c [4, 0, 0], .c [4, 0, 1], .c [5]] [(0, .P db 0), (1, .string name), (2, .I at_), (3, .slice a xs.length ca), (10, .pointer none), (11, .bool false)] ?_
     refine qG (sq 0 10) ?_
     refine qP 6 (sq 6 10) [(0, .P db 0), (1, .string name), (2, .I at_), (3, .slice a xs.length ca), (10, .pointer none), (11, .bool false), (45, .bool true), (48, .P db 2)] ?_
     refine qL .seq 49 (sq 7 10) 36 db 2 2 (.map (some nb)) (H.cells 0 rfl) ?_
     refine RW.mapLen (κ := .seq) (d := some 50) (r := (sq 8 10)) (T := 36) (ts := #[36]) (t := 3) (mk := Value.string) (vk := ptrV) (Kt := 9) (E := 139) (by as_aux_lemma => kernel_rfl) H 1 rfl (by as_aux_lemma => kernel_rfl) (by as_aux_lemma => kernel_rfl) ?_
     refine qF 2 [(0, .P db 0), (1, .string name), (2, .I at_), (3, .slice a xs.length ca), (10, .pointer none), (11, .bool false), (52, .bool (decide ((((L.length : Nat) : Int) : Int) ≥ 256)))] ?_
     refine qD ((((L.length : Nat) : Int) : Int) ≥ 256) (fun h9 => ?_) (fun h9 => ?_)
     ·
      refine qR 2 [.c [4, 0, 1, 0, 1], .c [5]] [(8, .I 72)] ?_
      refine qT (.I 72) Tryz.func118 ?_
      have H := H.pick [] rfl
      exact ⟨_, rfl, rfl, H⟩
     ·
      omega
theorem write_stopN {S : Nat → Prop} {w : World} {O : List Nat} {db nb sk c sn : Nat} {sv : Option Nat} {sa : Option Addr} {L : NameL} {left : Int} {name : ByteArray} (hs : name.size ≤ maxLen) {at_ : Int} {xs : List (BitVec 8)} {a : Option Addr} {ca : Nat} (hnm : nmI name = 1) (hat : 0 ≤ at_ ∧ at_ < 65536) (hxs : xs.length = 64) (hgo : left < 1 ∧ -9223372036854775808 < left) (hf : mfind name L = none) (hL : L.length < 256) (H0 : Hp w S O [(db, .cells #[.bool true, .map sv, .map (some nb), .slice sa sn sk, .bool true, .I left, .bool false] 39 (0, 0)), (nb, mapO Value.string ptrV L c)] [] [Rp SB [.slice a xs.length ca] xs] w) :
 Calls Tryz.prog 118 #[.P db 0, .string name, .I at_, .slice a xs.length ca] w (Ret fun v w' => v = .I 70 ∧ Hp w S O [(db, .cells #[.bool true, .map sv, .map (some nb), .slice sa sn sk, .bool true, .I (left - 1), .bool true] 39 (0, 0)), (nb, mapO Value.string ptrV L c)] [] [] w') := by
 refine qS (fn := Tryz.f118) (n := 111) (σ := [(0, .P db 0), (1, .string name), (2, .I at_), (3, .slice a xs.length ca)]) Tryz.func118 ?_
 have H := H0
 refine qR 4 [.c [1, 0, 0], .c [1, 0, 1], .c [2]] [(0, .P db 0), (1, .string name), (2, .I at_), (3, .slice a xs.length ca)] ?_
 refine qG (sq 0 3) ?_
 refine qP 1 (sq 1 3) [(0, .P db 0), (1, .string name), (2, .I at_), (3, .slice a xs.length ca), (13, .P db 0)] ?_
 refine qK .seq (some 14) (sq 2 3) 104 #[.P db 0] (state_spec (S := fun _ => True) (made := true) (dead := false) (H.viewM 0 rfl (by simp))) ?_
 rintro _ w1 hE2 rfl
 have H := H.ext hE2
 refine qF 1 [(0, .P db 0), (1, .string name), (2, .I at_), (3, .slice a xs.length ca), (9, .I 0)] ?_
 refine qR 6 [.c [2, 0, 0], .c [2, 0, 1], .c [3]] [(0, .P db 0), (1, .string name), (2, .I at_), (3, .slice a xs.length ca)] ?_
 refine qG (sq 0 16) ?_
 refine qP 1 (sq 1 16) [(0, .P db 0), (1, .string name), (2, .I at_), (3, .slice a xs.length ca), (18, .string name)] ?_
 refine qK .seq (some 19) (sq 2 16) 167 #[.string name] (named_spec (S := fun _ => True) name hs) ?_
 rintro _ w3 hE4 rfl
 have H := H.ext hE4
 refine qP 2 (sq 4 16) [(0, .P db 0), (1, .string name), (2, .I at_), (3, .slice a xs.length ca), (21, .bool (!(decide (nmI name = 1))))] ?_
 refine RW.test (fun b_ => [(0, .P db 0), (1, .string name), (2, .I at_), (3, .slice a xs.length ca), (21, .bool b_)]) (!(decide (nmI name = 1))) (fun h5 => ?_) (fun h5 => ?_)
 ·
  replace h5 : (decide (nmI name = 1)) = false := by revert h5; cases (decide (nmI name = 1)) <;> simp
  replace h5 := of_decide_eq_false h5
  omega
 ·
  replace h5 : (decide (nmI name = 1)) = true := by revert h5; cases (decide (nmI name = 1)) <;> simp
  replace h5 := of_decide_eq_true h5
  refine qP 4 (sq 8 16) [(0, .P db 0), (1, .string name), (2, .I at_), (3, .slice a xs.length ca), (25, .bool (decide ((at_ : Int) < 0)))] ?_
  refine tD (fun b_ => [(0, .P db 0), (1, .string name), (2, .I at_), (3, .slice a xs.length ca), (25, .bool b_)]) ((at_ : Int) < 0) (fun h6 => ?_) (fun h6 => ?_)
  ·
   omega
  ·
   refine qP 4 (sq 12 16) [(0, .P db 0), (1, .string name), (2, .I at_), (3, .slice a xs.length ca), (29, .bool (decide ((at_ : Int) ≥ 65536)))] ?_
   refine tD (fun b_ => [(0, .P db 0), (1, .string name), (2, .I at_), (3, .slice a xs.length ca), (29, .bool b_)]) ((at_ : Int) ≥ 65536) (fun h7 => ?_) (fun h7 => ?_)
   ·
    omega
   ·
    refine qF 4 [(0, .P db 0), (1, .string name), (2, .I at_), (3, .slice a xs.length ca), (33, .bool (((xs.length : Nat) : Int) != 64))] ?_
    refine qN ((xs.length : Nat) : Int) 64 (fun h8 => ?_) (fun h8 => ?_)
    ·
     omega
    ·
     refine qR 2 [.c [3, 0], .c [4]] [(0, .P db 0), (1, .string name), (2, .I at_), (3, .slice a xs.length ca)] ?_
     refine qG (sq 0 11) ?_
     refine qP 3 (sq 3 11) [(0, .P db 0), (1, .string name), (2, .I at_), (3, .slice a xs.length ca), (37, .P db 2)] ?_
     refine qL .seq 38 (sq 4 11) 36 db 2 2 (.map (some nb)) (H.cells 0 rfl) ?_
     refine qP 1 (sq 5 11) [(0, .P db 0), (1, .string name), (2, .I at_), (3, .slice a xs.length ca), (38, .map (some nb)), (39, .string name)] ?_
     refine RW.mapGetF (κ := .seq) (d := some 40) (r := (sq 6 11)) (T := 36) (mk := Value.string) (vk := ptrV) (Kt := 9) (E := 139) (z := none) name true (none) (v := .tuple #[.pointer none, .bool false]) (by as_aux_lemma => kernel_rfl) H 1 rfl (KeyOk.str (by as_aux_lemma => kernel_rfl)) (by as_aux_lemma => kernel_rfl) (fun w_ => zeroE_run (by as_aux_lemma => kernel_rfl) w_) (hf) rfl ?_
     refine qF 5 [(0, .P db 0), (1, .string name), (2, .I at_), (3, .slice a xs.length ca), (10, .pointer none), (11, .bool false)] ?_
     refine qR 2 [.c [4, 0, 0], .c [4, 0, 1], .c [5]] [(0, .P db 0), (1, .string name), (2, .I at_), (3, .slice a xs.length ca), (10, .pointer none), (11, .bool false)] ?_
     refine qG (sq 0 10) ?_
     refine qP 6 (sq 6 10) [(0, .P db 0), (1, .string name), (2, .I at_), (3, .slice a xs.length ca), (10, .pointer none), (11, .bool false), (45, .bool true), (48, .P db 2)] ?_
     refine qL .seq 49 (sq 7 10) 36 db 2 2 (.map (some nb)) (H.cells 0 rfl) ?_
     refine RW.mapLen (κ := .seq) (d := some 50) (r := (sq 8 10)) (T := 36) (ts := #[36]) (t := 3) (mk := Value.string) (vk := ptrV) (Kt := 9) (E := 139) (by as_aux_lemma => kernel_rfl) H 1 rfl (by as_aux_lemma => kernel_rfl) (by as_aux_lemma => kernel_rfl) ?_
     refine qF 2 [(0, .P db 0), (1, .string name), (2, .I at_), (3, .slice a xs.length ca), (10, .pointer none), (11, .bool false), (52, .bool (decide ((((L.length : Nat) : Int) : Int) ≥ 256)))] ?_
     refine qD ((((L.length : Nat) : Int) : Int) ≥ 256) (fun h9 => ?_) (fun h9 => ?_)
     ·
      omega
     ·
      refine qR 3 [.c [5, 0, 0], .c [5, 0, 1], .c [6]] [(0, .P db 0), (1, .string name), (2, .I at_), (3, .slice a xs.length ca), (10, .pointer none), (11, .bool false)] ?_
      refine qG (sq 0 2) ?_
      refine qP 1 (sq 1 2) [(0, .P db 0), (1, .string name), (2, .I at_), (3, .slice a xs.length ca), (10, .pointer none), (11, .bool false), (53, .P db 0)] ?_
      refine RW.callS (d := some 54) (r := (sq 2 2)) (g := 119) (args := #[.P db 0]) (by as_aux_lemma => kernel_rfl) (spent_stop hgo ((H.lend (M1 := [(db, .cells #[.bool true, .map sv, .map (some nb), .slice sa sn sk, .bool true, .I left, .bool false] 39 (0, 0))]) (W1 := [])).pick [] rfl) ) ?_
      rintro _ w10 ⟨rfl, H'⟩
      have H := H.back (M1 := [(db, .cells #[.bool true, .map sv, .map (some nb), .slice sa sn sk, .bool true, .I left, .bool false] 39 (0, 0))]) (W1 := []) H'
      have H : Hp w S O [(db, .cells #[.bool true, .map sv, .map (some nb), .slice sa sn sk, .bool true, .I (left - 1), .bool true] 39 (0, 0)), (nb, mapO Value.string ptrV L c)] [] [Rp SB [.slice a xs.length ca] xs] _ := H
      refine qF 0 [(0, .P db 0), (1, .string name), (2, .I at_), (3, .slice a xs.length ca), (10, .pointer none), (11, .bool false), (54, .bool true)] ?_
      refine qR 3 [.c [5, 0, 1, 0, 1], .c [6]] [(8, .I 70)] ?_
      refine qT (.I 70) Tryz.func118 ?_
      have H := H.pick [] rfl
      exact ⟨_, rfl, rfl, H⟩
theorem write_stopO {S : Nat → Prop} {w : World} {O : List Nat} {db nb sk c sn : Nat} {sv : Option Nat} {sa : Option Addr} {L : NameL} {left : Int} {name : ByteArray} (hs : name.size ≤ maxLen) {at_ : Int} {xs : List (BitVec 8)} {a : Option Addr} {ca : Nat} (hnm : nmI name = 1) (hat : 0 ≤ at_ ∧ at_ < 65536) (hxs : xs.length = 64) (hgo : left < 1 ∧ -9223372036854775808 < left) {p : Nat} (hf : mfind name L = some (some p)) (H0 : Hp w S O [(db, .cells #[.bool true, .map sv, .map (some nb), .slice sa sn sk, .bool true, .I left, .bool false] 39 (0, 0)), (nb, mapO Value.string ptrV L c)] [] [Rp SB [.slice a xs.length ca] xs] w) :
 Calls Tryz.prog 118 #[.P db 0, .string name, .I at_, .slice a xs.length ca] w (Ret fun v w' => v = .I 70 ∧ Hp w S O [(db, .cells #[.bool true, .map sv, .map (some nb), .slice sa sn sk, .bool true, .I (left - 1), .bool true] 39 (0, 0)), (nb, mapO Value.string ptrV L c)] [] [] w') := by
 refine qS (fn := Tryz.f118) (n := 111) (σ := [(0, .P db 0), (1, .string name), (2, .I at_), (3, .slice a xs.length ca)]) Tryz.func118 ?_
 have H := H0
 refine qR 4 [.c [1, 0, 0], .c [1, 0, 1], .c [2]] [(0, .P db 0), (1, .string name), (2, .I at_), (3, .slice a xs.length ca)] ?_
 refine qG (sq 0 3) ?_
 refine qP 1 (sq 1 3) [(0, .P db 0), (1, .string name), (2, .I at_), (3, .slice a xs.length ca), (13, .P db 0)] ?_
 refine qK .seq (some 14) (sq 2 3) 104 #[.P db 0] (state_spec (S := fun _ => True) (made := true) (dead := false) (H.viewM 0 rfl (by simp))) ?_
 rintro _ w1 hE2 rfl
 have H := H.ext hE2
 refine qF 1 [(0, .P db 0), (1, .string name), (2, .I at_), (3, .slice a xs.length ca), (9, .I 0)] ?_
 refine qR 6 [.c [2, 0, 0], .c [2, 0, 1], .c [3]] [(0, .P db 0), (1, .string name), (2, .I at_), (3, .slice a xs.length ca)] ?_
 refine qG (sq 0 16) ?_
 refine qP 1 (sq 1 16) [(0, .P db 0), (1, .string name), (2, .I at_), (3, .slice a xs.length ca), (18, .string name)] ?_
 refine qK .seq (some 19) (sq 2 16) 167 #[.string name] (named_spec (S := fun _ => True) name hs) ?_
 rintro _ w3 hE4 rfl
 have H := H.ext hE4
 refine qP 2 (sq 4 16) [(0, .P db 0), (1, .string name), (2, .I at_), (3, .slice a xs.length ca), (21, .bool (!(decide (nmI name = 1))))] ?_
 refine RW.test (fun b_ => [(0, .P db 0), (1, .string name), (2, .I at_), (3, .slice a xs.length ca), (21, .bool b_)]) (!(decide (nmI name = 1))) (fun h5 => ?_) (fun h5 => ?_)
 ·
  replace h5 : (decide (nmI name = 1)) = false := by revert h5; cases (decide (nmI name = 1)) <;> simp
  replace h5 := of_decide_eq_false h5
  omega
 ·
  replace h5 : (decide (nmI name = 1)) = true := by revert h5; cases (decide (nmI name = 1)) <;> simp
  replace h5 := of_decide_eq_true h5
  refine qP 4 (sq 8 16) [(0, .P db 0), (1, .string name), (2, .I at_), (3, .slice a xs.length ca), (25, .bool (decide ((at_ : Int) < 0)))] ?_
  refine tD (fun b_ => [(0, .P db 0), (1, .string name), (2, .I at_), (3, .slice a xs.length ca), (25, .bool b_)]) ((at_ : Int) < 0) (fun h6 => ?_) (fun h6 => ?_)
  ·
   omega
  ·
   refine qP 4 (sq 12 16) [(0, .P db 0), (1, .string name), (2, .I at_), (3, .slice a xs.length ca), (29, .bool (decide ((at_ : Int) ≥ 65536)))] ?_
   refine tD (fun b_ => [(0, .P db 0), (1, .string name), (2, .I at_), (3, .slice a xs.length ca), (29, .bool b_)]) ((at_ : Int) ≥ 65536) (fun h7 => ?_) (fun h7 => ?_)
   ·
    omega
   ·
    refine qF 4 [(0, .P db 0), (1, .string name), (2, .I at_), (3, .slice a xs.length ca), (33, .bool (((xs.length : Nat) : Int) != 64))] ?_
    refine qN ((xs.length : Nat) : Int) 64 (fun h8 => ?_) (fun h8 => ?_)
    ·
     omega
    ·
     refine qR 2 [.c [3, 0], .c [4]] [(0, .P db 0), (1, .string name), (2, .I at_), (3, .slice a xs.length ca)] ?_
     refine qG (sq 0 11) ?_
     refine qP 3 (sq 3 11) [(0, .P db 0), (1, .string name), (2, .I at_), (3, .slice a xs.length ca), (37, .P db 2)] ?_
     refine qL .seq 38 (sq 4 11) 36 db 2 2 (.map (some nb)) (H.cells 0 rfl) ?_
     refine qP 1 (sq 5 11) [(0, .P db 0), (1, .string name), (2, .I at_), (3, .slice a xs.length ca), (38, .map (some nb)), (39, .string name)] ?_
     refine RW.mapGetF (κ := .seq) (d := some 40) (r := (sq 6 11)) (T := 36) (mk := Value.string) (vk := ptrV) (Kt := 9) (E := 139) (z := none) name true ((some (some p))) (v := .tuple #[.P p 0, .bool true]) (by as_aux_lemma => kernel_rfl) H 1 rfl (KeyOk.str (by as_aux_lemma => kernel_rfl)) (by as_aux_lemma => kernel_rfl) (fun w_ => zeroE_run (by as_aux_lemma => kernel_rfl) w_) (hf) rfl ?_
     refine qF 5 [(0, .P db 0), (1, .string name), (2, .I at_), (3, .slice a xs.length ca), (10, .P p 0), (11, .bool true)] ?_
     refine qR 7 [.c [5, 0, 0], .c [5, 0, 1], .c [6]] [(0, .P db 0), (1, .string name), (2, .I at_), (3, .slice a xs.length ca), (10, .P p 0), (11, .bool true)] ?_
     refine qG (sq 0 2) ?_
     refine qP 1 (sq 1 2) [(0, .P db 0), (1, .string name), (2, .I at_), (3, .slice a xs.length ca), (10, .P p 0), (11, .bool true), (53, .P db 0)] ?_
     refine RW.callS (d := some 54) (r := (sq 2 2)) (g := 119) (args := #[.P db 0]) (by as_aux_lemma => kernel_rfl) (spent_stop hgo ((H.lend (M1 := [(db, .cells #[.bool true, .map sv, .map (some nb), .slice sa sn sk, .bool true, .I left, .bool false] 39 (0, 0))]) (W1 := [])).pick [] rfl) ) ?_
     rintro _ w9 ⟨rfl, H'⟩
     have H := H.back (M1 := [(db, .cells #[.bool true, .map sv, .map (some nb), .slice sa sn sk, .bool true, .I left, .bool false] 39 (0, 0))]) (W1 := []) H'
     have H : Hp w S O [(db, .cells #[.bool true, .map sv, .map (some nb), .slice sa sn sk, .bool true, .I (left - 1), .bool true] 39 (0, 0)), (nb, mapO Value.string ptrV L c)] [] [Rp SB [.slice a xs.length ca] xs] _ := H
     refine qF 0 [(0, .P db 0), (1, .string name), (2, .I at_), (3, .slice a xs.length ca), (10, .P p 0), (11, .bool true), (54, .bool true)] ?_
     refine qR 3 [.c [5, 0, 1, 0, 1], .c [6]] [(8, .I 70)] ?_
     refine qT (.I 70) Tryz.func118 ?_
     have H := H.pick [] rfl
     exact ⟨_, rfl, rfl, H⟩
end Go.Proofs.YtdnibpclkhenmaaGreatDoor
