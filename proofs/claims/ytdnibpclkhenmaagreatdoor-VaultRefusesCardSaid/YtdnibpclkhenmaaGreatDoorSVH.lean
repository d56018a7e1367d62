import Derived.Test.YtdnibpclkhenmaaGreatDoorSBxA
import Derived.Test.YtdnibpclkhenmaaGreatDoorSVG
import Derived.Test.YtdnibpclkhenmaaGreatDoorSBxB
namespace Go.Proofs.YtdnibpclkhenmaaGreatDoor
open Go.BX
set_option maxHeartbeats 2000000 in
theorem refuses9_yes {S : Nat → Prop} {w : World} {x : ByteArray} (hx : x.size ≤ 140737488355328) (x1 : Int) (hpn : PlainN x) (hqt : (0 ≤ x1 ∧ x1 ≤ 268435456)) {C : Chk} {cs : List Value} (hC : chkS.rep S w cs C) (hq : (Fz jQ).p S w) :
 Calls Tryz.prog 11 #[.string x, .I x1, .agg cs.toArray] w (Ret fun v w' => Ext w w' ∧ v = .bool true) := by
 have hsz9 : x.data.size = x.size := rfl
 obtain ⟨cs0C, a1C, k1C, rfl, h0C, h1C⟩ := chk_open hC
 obtain ⟨cs0Chead, rfl, h0Chead, h1Chead, h2Chead, h3Chead⟩ := hdr_open h0C
 obtain ⟨rfl, h0Cheadid, h1Cheadid, h2Cheadid⟩ := cid_open h0Chead
 refine uS1 Tryz.func11 ?_
 have H := Hp.startF (.rp h1C (.cons hq .nil))
 refine uR 1 [.c [0], .c [1]] ?_
 refine qG (sq 0 2) ?_
 refine uC #[.int .u64 C.head.id.version, .I C.head.id.index, .int .u64 C.head.id.epoch, .I C.head.kk, .I C.head.nn, .I C.head.size, .int .u32 ((C.head.sum.toNat : Nat) : Int), .slice a1C C.data.length k1C, .bool C.done_] 102 H ?_
 intro b1 w2 H
 refine uF 1 ?_
 refine uR 1 [.c [1, 0], .c [2]] ?_
 refine WK.join (fun b_ : Bool => b_ = decide ((1 ≤ x.size ∧ x.size ≤ 16) ∧ (0 ≤ x1 ∧ x1 ≤ 268435456))) (fun b_ => [(0, .string x), (1, .I x1), (5, .P b1 0), (7, .bool b_)]) [Cq Tryz.prog 11 [2]] (fun hJ3 => ?_) (fun bj4 hbj5 => ?_)
 ·
  refine qG (sq 0 17) ?_
  refine uP 4 ?_
  refine uD 23 ((((x.size : Nat) : Int) : Int) ≥ 1) (fun h6 => ?_) (fun h6 => ?_)
  ·
   refine uP 5 ?_
   refine uD 28 ((((x.size : Nat) : Int) : Int) ≤ 16) (fun h7 => ?_) (fun h7 => ?_)
   ·
    refine uP 4 ?_
    refine uD 32 ((x1 : Int) ≥ 0) (fun h8 => ?_) (fun h8 => ?_)
    ·
     refine uF 4 ?_
     exact uB (hJ3 (decide ((x1 : Int) ≤ 268435456)) (decide_eq_decide.2 (by constructor <;> intro _ <;> omega)))
    ·
     refine uF 4 ?_
     exact uB (hJ3 false ((decide_eq_false (by omega)).symm))
   ·
    refine uF 8 ?_
    exact uB (hJ3 false ((decide_eq_false (by omega)).symm))
  ·
   refine uF 13 ?_
   exact uB (hJ3 false ((decide_eq_false (by omega)).symm))
 ·
  refine uR 4 [.c [2, 0, 1, 0], .b 0, .c [3]] ?_
  refine uL (α := Nat × Bool) (g := 11) (p := [2, 0, 1, 0, 0]) (fun (i, bb) => [(0, .string x), (1, .I x1), (5, .P b1 0), (7, .bool bb), (8, .I i)]) (fun (i, bb) w' => Hp w S [] [(b1, .cells #[.int .u64 C.head.id.version, .I C.head.id.index, .int .u64 C.head.id.epoch, .I C.head.kk, .I C.head.nn, .I C.head.size, .int .u32 ((C.head.sum.toNat : Nat) : Int), .slice a1C C.data.length k1C, .bool C.done_] 102 (0, 0))] [] [Rp SB [.slice a1C C.data.length k1C] C.data, Fz jQ] w' ∧ i ≤ x.size ∧ (bb = true ↔ MayP x i)) (fun (i, bb) => x.size - i) (0, bj4) ⟨H, Nat.zero_le _, ⟨fun h => ⟨(of_decide_eq_true (hbj5.symm.trans h)).1, fun j hj => absurd hj (Nat.not_lt_zero j)⟩, fun h => hbj5.trans (decide_eq_true ⟨h.1, hqt⟩)⟩⟩ ?_
  rintro ⟨i, bb⟩ w10 ⟨H, ⟨hi, hbb⟩⟩ hback9
  refine uR 3 [.c [2, 0, 1, 0, 0, 0, 1], .c [2, 0, 1, 0, 0, 1], .l [2, 0, 1, 0, 0], .b 0, .c [3]] ?_
  refine qD (((i : Int) : Int) < ((x.size : Nat) : Int)) (fun h11 => ?_) (fun h11 => ?_)
  ·
   refine uR 3 [.c [2, 0, 1, 0, 0, 1, 0, 0], .b 1, .c [2, 0, 1, 0, 0, 2], .l [2, 0, 1, 0, 0], .b 0, .c [3]] ?_
   refine qG (sq 0 14) ?_
   refine uP 2 ?_
   refine uT 43 bb (fun h12 => ?_) (fun h12 => ?_)
   ·
    refine uP 2 ?_
    have hx13 : i < (x).data.size := by have := hsz9; omega
    refine RW.strAt (κ := .seq) (d := some 46) (r := (sq 5 14)) (T := 9) (s := x) (k := .i64) (t := (i : Int)) i (by as_aux_lemma => kernel_rfl) (by as_aux_lemma => kernel_rfl) (by omega) hx13 ?_
    refine uP 3 ?_
    refine uD 49 ((((((x).data[i]'hx13).toNat : Nat) : Int) : Int) ≥ 97) (fun h14 => ?_) (fun h14 => ?_)
    ·
     refine uP 2 ?_
     have hx15 : i < (x).data.size := by have := hsz9; omega
     refine RW.strAt (κ := .seq) (d := some 52) (r := (sq 11 14)) (T := 9) (s := x) (k := .i64) (t := (i : Int)) i (by as_aux_lemma => kernel_rfl) (by as_aux_lemma => kernel_rfl) (by omega) hx15 ?_
     refine uF 3 ?_
     refine uR 1 [.c [2, 0, 1, 0, 0, 2], .l [2, 0, 1, 0, 0], .b 0, .c [3]] ?_
     refine qG (sq 0 3) ?_
     refine uP 1 ?_
     refine uI ((i : Int) + 1) ?_
     refine uF 1 ?_
     exact uB (hback9 (i + 1, decide ((((((x).data[i]'hx15).toNat : Nat) : Int) : Int) ≤ 122)) _ ⟨H, by omega, may_yes hbb (by assumption) (by omega) ⟨fun h => ⟨by omega, by have := of_decide_eq_true h; omega⟩, fun h => decide_eq_true (by omega)⟩⟩ (by first | omega | (simp only []; omega)))
    ·
     refine qF 6 [(0, .string x), (1, .I x1), (5, .P b1 0), (7, .bool false), (8, .I i)] ?_
     refine uR 1 [.c [2, 0, 1, 0, 0, 2], .l [2, 0, 1, 0, 0], .b 0, .c [3]] ?_
     refine qG (sq 0 3) ?_
     refine uP 1 ?_
     refine uI ((i : Int) + 1) ?_
     refine uF 1 ?_
     exact uB (hback9 (i + 1, false) _ ⟨H, by omega, may_bad (by omega) (by omega)⟩ (by first | omega | (simp only []; omega)))
   ·
    refine uF 12 ?_
    refine uR 1 [.c [2, 0, 1, 0, 0, 2], .l [2, 0, 1, 0, 0], .b 0, .c [3]] ?_
    refine qG (sq 0 3) ?_
    refine uP 1 ?_
    refine uI ((i : Int) + 1) ?_
    refine uF 1 ?_
    exact uB (hback9 (i + 1, false) _ ⟨H, by omega, may_no hbb (by assumption)⟩ (by first | omega | (simp only []; omega)))
  ·
   obtain rfl : bb = true := hbb.2 ((may_all (by omega)).2 hpn)
   refine uR 2 [.c [3, 0], .c [4]] ?_
   refine qG (sq 0 2) ?_
   refine uK (new_spec (S := Av S w [] (idsOf [(b1, .cells #[.int .u64 C.head.id.version, .I C.head.id.index, .int .u64 C.head.id.epoch, .I C.head.kk, .I C.head.nn, .I C.head.size, .int .u32 ((C.head.sum.toNat : Nat) : Int), .slice a1C C.data.length k1C, .bool C.done_] 102 (0, 0))] []))) ?_
   rintro _ w16 - ⟨db17, x18, y19, rfl, H'⟩
   have H := H.back (M1 := []) (W1 := []) H'
   have H := H.ung 0
   have H : Hp w S [] (_ :: (diskM db17 (newD x18 y19) none 0)) [⟨stepS, 143, .slice none ((newD x18 y19).steps.length) 0, (newD x18 y19).steps⟩] [_, _] _ := H
   have hokdb17 : DOk (newD x18 y19) := newD_ok x18 y19
   refine uF 1 ?_
   refine uR 6 [.c [5, 0], .c [6]] ?_
   refine qG (sq 0 9) ?_
   refine uP 3 ?_
   have hcw0 := newD_CW x18 y19 x
   have hna0 : (newD x18 y19).armed = false := rfl
   have H := H.gat 0 1
   refine uKS (vopen_spec (n := 100000000) (m := 0) (q := 0) (c := 0) (ds := ([] : List Deed)) hpn hcw0.di (hcw0.al.mono (by omega)) hna0 (newD_op x18 y19 _) hcw0.cap (by omega) (fun B R h => h) allD_nil (Nat.zero_le _) (Nat.zero_le _) (by omega) hqt ((H.lend (M1 := (diskM _ _ _ _)) (W1 := [_])).pick [1] rfl)) ?_
   rintro _ w20 ⟨vb21, jb22, mb23, g24, ab25, cb26, ar27, cr28, D29, sa30, sk31, L32, rfl, hW33, hna34, hL35, H'⟩
   have H := H.back (M1 := (diskM _ _ _ _)) (W1 := [_]) H'
   have H := H.ung 3
   have H : Hp w S [] ((vb21, .cells #[.P jb22 0, .P db17 0, .map (some mb23), .I x1, .I (usedL (runD ([] : List Deed)).1 : Int), .I (([] : List Deed).length : Int)] 119 (0, 0)) :: (mb23, mapO cidV veV L32 ((runD ([] : List Deed)).2)) :: (jb22, .cells #[.P db17 0, .string x, .slice ab25 (([] : List (BitVec 8)).length) cb26, .slice ar27 ((([] : List Deed).map encD).length) cr28, .I g24, .string (⟨#[]⟩ : ByteArray), .slice none (([] : List (BitVec 8)).length) 0, .bool true] 41 (0, 0)) :: _ :: (diskM db17 D29 sa30 sk31)) [⟨SB, 23, .slice ar27 ((([] : List Deed).map encD).length) cr28, (([] : List Deed).map encD)⟩, ⟨stepS, 143, .slice sa30 D29.steps.length sk31, D29.steps⟩] [Rp SB [.slice ab25 (([] : List (BitVec 8)).length) cb26] ([] : List (BitVec 8)), Rp SB [.slice none (([] : List (BitVec 8)).length) 0] ([] : List (BitVec 8)), Fall L32, _, _] _ := H
   refine uF 5 ?_
   refine uR 1 [.c [6, 0], .c [7]] ?_
   refine qG (sq 0 8) ?_
   refine uP 2 ?_
   refine uK (vopen_nil (S := fun _ => True) x x1) ?_
   rintro _ w36 hE37 rfl
   have H := H.ext hE37
   refine qF 5 [(5, .P b1 0), (7, .bool true), (10, .P vb21 0), (11, .I 0), (13, .I 1)] ?_
   refine uR 8 [.c [9, 0], .c [10]] ?_
   refine qG (sq 0 5) ?_
   refine uP 2 ?_
   refine uC #[.pointer none, .pointer none, .map none, .I 0, .I 0, .I 0] 119 H ?_
   intro b38 w39 H
   refine RW.new (κ := .seq) (d := some 94) (r := (sq 4 5)) (o := .cells #[.pointer none, .P b38 0] 103 (0, 0)) (v := fun b => .slice (some ⟨b, 0, none⟩) 2 2) (fun b => by as_aux_lemma => kernel_rfl) (nofun) H ?_
   intro b40 w41 H
   refine uF 1 ?_
   refine uR 4 [.c [10, 0, 1, 0], .b 2, .c [11]] ?_
   refine uL (α := Unit) (g := 11) (p := [10, 0, 1, 0, 0]) (fun _ => [(5, .P b1 0), (15, .slice (some ⟨b40, 0, none⟩) 2 2), (16, .I 0)]) (fun _ w' => Hp w S [] ((b40, .cells #[.pointer none, .P b38 0] 103 (0, 0)) :: (b38, .cells #[.pointer none, .pointer none, .map none, .I 0, .I 0, .I 0] 119 (0, 0)) :: (vb21, .cells #[.P jb22 0, .P db17 0, .map (some mb23), .I x1, .I (usedL (runD ([] : List Deed)).1 : Int), .I (([] : List Deed).length : Int)] 119 (0, 0)) :: (mb23, mapO cidV veV L32 ((runD ([] : List Deed)).2)) :: (jb22, .cells #[.P db17 0, .string x, .slice ab25 (([] : List (BitVec 8)).length) cb26, .slice ar27 ((([] : List Deed).map encD).length) cr28, .I g24, .string (⟨#[]⟩ : ByteArray), .slice none (([] : List (BitVec 8)).length) 0, .bool true] 41 (0, 0)) :: (b1, .cells #[.int .u64 C.head.id.version, .I C.head.id.index, .int .u64 C.head.id.epoch, .I C.head.kk, .I C.head.nn, .I C.head.size, .int .u32 ((C.head.sum.toNat : Nat) : Int), .slice a1C C.data.length k1C, .bool C.done_] 102 (0, 0)) :: (diskM db17 D29 sa30 sk31)) [⟨SB, 23, .slice ar27 ((([] : List Deed).map encD).length) cr28, (([] : List Deed).map encD)⟩, ⟨stepS, 143, .slice sa30 D29.steps.length sk31, D29.steps⟩] [Rp SB [.slice ab25 (([] : List (BitVec 8)).length) cb26] ([] : List (BitVec 8)), Rp SB [.slice none (([] : List (BitVec 8)).length) 0] ([] : List (BitVec 8)), Fall L32, Rp SB [.slice a1C C.data.length k1C] C.data, Fz jQ] w' ∧ True) (fun _ => 0) (()) ⟨H, trivial⟩ ?_
   rintro _ w43 ⟨H, hinv1⟩ hback42
   refine uR 8 [.c [10, 0, 1, 0, 0, 1, 0, 0, 0], .c [10, 0, 1, 0, 0, 1, 0, 0, 1], .b 3, .c [10, 0, 1, 0, 0, 2], .l [10, 0, 1, 0, 0], .b 2, .c [11]] ?_
   refine qG (sq 0 5) ?_
   refine uP 3 ?_
   refine uV 103 0 (H.cells 0 rfl) ?_
   refine uF 1 ?_
   refine uR 1 [.c [10, 0, 1, 0, 0, 1, 0, 0, 1, 0], .c [10, 0, 1, 0, 0, 1, 0, 0, 2], .b 3, .c [10, 0, 1, 0, 0, 2], .l [10, 0, 1, 0, 0], .b 2, .c [11]] ?_
   refine qG (sq 0 11) ?_
   refine uP 3 ?_
   refine uV 82 0 (H.cells 5 rfl) ?_
   refine uK (vget_nil (S := fun _ => True) (D := C.head.id)) ?_
   rintro _ w44 hE45 rfl
   have H := H.ext hE45
   refine uP 3 ?_
   refine uC #[.int .u64 0, .I 0, .int .u64 0, .I 0, .I 0, .I 0, .int .u32 0, .slice none 0 0, .bool false] 102 H ?_
   intro b46 w47 H
   refine qW 102 b46 0 (sq 10 11) (.agg #[.int .u64 0, .I 0, .int .u64 0, .I 0, .I 0, .I 0, .int .u32 (((0#32).toNat : Nat) : Int), .slice none 0 0, .bool false]) ((b46, .cells #[.int .u64 0, .I 0, .int .u64 0, .I 0, .I 0, .I 0, .int .u32 (((0#32).toNat : Nat) : Int), .slice none 0 0, .bool false] 102 (0, 0)) :: (b40, .cells #[.pointer none, .P b38 0] 103 (0, 0)) :: (b38, .cells #[.pointer none, .pointer none, .map none, .I 0, .I 0, .I 0] 119 (0, 0)) :: (vb21, .cells #[.P jb22 0, .P db17 0, .map (some mb23), .I x1, .I (usedL (runD ([] : List Deed)).1 : Int), .I (([] : List Deed).length : Int)] 119 (0, 0)) :: (mb23, mapO cidV veV L32 ((runD ([] : List Deed)).2)) :: (jb22, .cells #[.P db17 0, .string x, .slice ab25 (([] : List (BitVec 8)).length) cb26, .slice ar27 ((([] : List Deed).map encD).length) cr28, .I g24, .string (⟨#[]⟩ : ByteArray), .slice none (([] : List (BitVec 8)).length) 0, .bool true] 41 (0, 0)) :: (b1, .cells #[.int .u64 C.head.id.version, .I C.head.id.index, .int .u64 C.head.id.epoch, .I C.head.kk, .I C.head.nn, .I C.head.size, .int .u32 ((C.head.sum.toNat : Nat) : Int), .slice a1C C.data.length k1C, .bool C.done_] 102 (0, 0)) :: (diskM db17 D29 sa30 sk31)) H 0 rfl rfl ?_
   intro w48 H
   refine uF 1 ?_
   refine uR 1 [.c [10, 0, 1, 0, 0, 1, 0, 0, 2, 0], .c [10, 0, 1, 0, 0, 1, 0, 0, 3], .b 3, .c [10, 0, 1, 0, 0, 2], .l [10, 0, 1, 0, 0], .b 2, .c [11]] ?_
   refine qG (sq 0 55) ?_
   refine uP 1 ?_
   refine uV 102 0 (H.cells 6 rfl) ?_
   refine qK .seq (some 113) (sq 3 55) 39 #[.pointer none, .agg #[.int .u64 C.head.id.version, .I C.head.id.index, .int .u64 C.head.id.epoch, .I C.head.kk, .I C.head.nn, .I C.head.size, .int .u32 ((C.head.sum.toNat : Nat) : Int), .slice a1C C.data.length k1C, .bool C.done_]] (vprep_nil (S := fun _ => True) (C := C)) ?_
   rintro _ w49 hE50 rfl
   have H := H.ext hE50
   refine uP 5 ?_
   refine uV 82 0 (H.cells 6 rfl) ?_
   refine uK (vsettle_nil (S := fun _ => True) (D := C.head.id)) ?_
   rintro _ w51 hE52 rfl
   have H := H.ext hE52
   refine uP 6 ?_
   refine uV 82 0 (H.cells 6 rfl) ?_
   refine uK (vdrop_nil (S := fun _ => True) (D := C.head.id)) ?_
   rintro _ w53 hE54 rfl
   have H := H.ext hE54
   refine uP 7 ?_
   refine uV 102 0 (H.cells 0 rfl) ?_
   refine uP 1 ?_
   have H := H.add (F := Rp SB [.slice none 0 0] ([] : List (BitVec 8))) Shape.slice_nil
   refine uK (same9_spec (C := (⟨⟨⟨0, 0, 0⟩, 0, 0, 0, 0#32⟩, [], false⟩ : Chk)) (H.rp 0 rfl) (H.rp 0 rfl)) ?_
   rintro _ w55 hE56 rfl
   have H := H.ext hE56
   refine uP 4 ?_
   refine uK (vlist_none (S := fun _ => True)) ?_
   rintro _ w57 hE62 rfl
   have H := H.ext hE62
   refine uP 5 ?_
   refine uK (vused_none (S := fun _ => True)) ?_
   rintro _ w63 hE64 rfl
   have H := H.ext hE64
   refine uP 4 ?_
   refine uK (vscrub_none (S := fun _ => True)) ?_
   rintro _ w65 hE70 rfl
   have H := H.ext hE70
   refine uP 7 ?_
   refine uV 82 0 (H.cells 6 rfl) ?_
   refine qK .seq (some 163) (sq 53 55) 41 #[.pointer none, .agg #[.int .u64 C.head.id.version, .I C.head.id.index, .int .u64 C.head.id.epoch], .I 0] (vrot_nil (S := fun _ => True) (D := C.head.id)) ?_
   rintro _ w71 hE72 rfl
   have H := H.ext hE72
   refine uF 2 ?_
   refine uR 4 [.l [10, 0, 1, 0, 0], .b 2, .c [11]] ?_
   refine WK.again ?_
   refine uR 8 [.c [10, 0, 1, 0, 0, 1, 0, 0, 0], .c [10, 0, 1, 0, 0, 1, 0, 0, 1], .b 3, .c [10, 0, 1, 0, 0, 2], .l [10, 0, 1, 0, 0], .b 2, .c [11]] ?_
   refine qG (sq 0 5) ?_
   refine uP 3 ?_
   refine uV 103 1 (H.cells 1 rfl) ?_
   refine uF 1 ?_
   refine uR 1 [.c [10, 0, 1, 0, 0, 1, 0, 0, 1, 0], .c [10, 0, 1, 0, 0, 1, 0, 0, 2], .b 3, .c [10, 0, 1, 0, 0, 2], .l [10, 0, 1, 0, 0], .b 2, .c [11]] ?_
   refine qG (sq 0 11) ?_
   refine uP 3 ?_
   refine uV 82 0 (H.cells 6 rfl) ?_
   refine uK (vget_zero (S := fun _ => True) (D := C.head.id) (H.viewM 2 rfl (by simp))) ?_
   rintro _ w73 hE74 rfl
   have H := H.ext hE74
   refine uP 3 ?_
   refine uC #[.int .u64 0, .I 0, .int .u64 0, .I 0, .I 0, .I 0, .int .u32 0, .slice none 0 0, .bool false] 102 H ?_
   intro b75 w76 H
   refine qW 102 b75 0 (sq 10 11) (.agg #[.int .u64 0, .I 0, .int .u64 0, .I 0, .I 0, .I 0, .int .u32 (((0#32).toNat : Nat) : Int), .slice none 0 0, .bool false]) ((b75, .cells #[.int .u64 0, .I 0, .int .u64 0, .I 0, .I 0, .I 0, .int .u32 (((0#32).toNat : Nat) : Int), .slice none 0 0, .bool false] 102 (0, 0)) :: (b46, .cells #[.int .u64 0, .I 0, .int .u64 0, .I 0, .I 0, .I 0, .int .u32 (((0#32).toNat : Nat) : Int), .slice none 0 0, .bool false] 102 (0, 0)) :: (b40, .cells #[.pointer none, .P b38 0] 103 (0, 0)) :: (b38, .cells #[.pointer none, .pointer none, .map none, .I 0, .I 0, .I 0] 119 (0, 0)) :: (vb21, .cells #[.P jb22 0, .P db17 0, .map (some mb23), .I x1, .I (usedL (runD ([] : List Deed)).1 : Int), .I (([] : List Deed).length : Int)] 119 (0, 0)) :: (mb23, mapO cidV veV L32 ((runD ([] : List Deed)).2)) :: (jb22, .cells #[.P db17 0, .string x, .slice ab25 (([] : List (BitVec 8)).length) cb26, .slice ar27 ((([] : List Deed).map encD).length) cr28, .I g24, .string (⟨#[]⟩ : ByteArray), .slice none (([] : List (BitVec 8)).length) 0, .bool true] 41 (0, 0)) :: (b1, .cells #[.int .u64 C.head.id.version, .I C.head.id.index, .int .u64 C.head.id.epoch, .I C.head.kk, .I C.head.nn, .I C.head.size, .int .u32 ((C.head.sum.toNat : Nat) : Int), .slice a1C C.data.length k1C, .bool C.done_] 102 (0, 0)) :: (diskM db17 D29 sa30 sk31)) H 0 rfl rfl ?_
   intro w77 H
   refine uF 1 ?_
   refine uR 1 [.c [10, 0, 1, 0, 0, 1, 0, 0, 2, 0], .c [10, 0, 1, 0, 0, 1, 0, 0, 3], .b 3, .c [10, 0, 1, 0, 0, 2], .l [10, 0, 1, 0, 0], .b 2, .c [11]] ?_
   refine qG (sq 0 55) ?_
   refine qP 1 (sq 1 55) [(5, .P b1 0), (15, .slice (some ⟨b40, 0, none⟩) 2 2), (16, .I 1), (17, .P b38 0), (18, .P b75 0), (19, .I 1), (111, .P b38 0)] ?_
   refine uV 102 0 (H.cells 7 rfl) ?_
   refine qK .seq (some 113) (sq 3 55) 39 #[.P b38 0, .agg #[.int .u64 C.head.id.version, .I C.head.id.index, .int .u64 C.head.id.epoch, .I C.head.kk, .I C.head.nn, .I C.head.size, .int .u32 ((C.head.sum.toNat : Nat) : Int), .slice a1C C.data.length k1C, .bool C.done_]] (vprep_zero (S := fun _ => True) (C := C) (H.viewM 3 rfl (by simp))) ?_
   rintro _ w78 hE79 rfl
   have H := H.ext hE79
   refine uP 5 ?_
   refine uV 82 0 (H.cells 7 rfl) ?_
   refine uK (vsettle_zero (S := fun _ => True) (D := C.head.id) (H.viewM 3 rfl (by simp))) ?_
   rintro _ w80 hE81 rfl
   have H := H.ext hE81
   refine uP 6 ?_
   refine uV 82 0 (H.cells 7 rfl) ?_
   refine uK (vdrop_zero (S := fun _ => True) (D := C.head.id) (H.viewM 3 rfl (by simp))) ?_
   rintro _ w82 hE83 rfl
   have H := H.ext hE83
   refine uP 7 ?_
   refine uV 102 0 (H.cells 0 rfl) ?_
   refine uP 1 ?_
   refine uK (same9_spec (C := (⟨⟨⟨0, 0, 0⟩, 0, 0, 0, 0#32⟩, [], false⟩ : Chk)) (H.rp 0 rfl) (H.rp 0 rfl)) ?_
   rintro _ w84 hE85 rfl
   have H := H.ext hE85
   refine uP 4 ?_
   have H := H.frontM 3 rfl
   refine uKS (vlist_zero ((H.lend (M1 := [_]) (W1 := [])).pick [] rfl)) ?_
   rintro _ w86 ⟨a87, c88, rfl, H'⟩
   have H := H.back (M1 := [_]) (W1 := []) H'
   have H : Hp w S [] (_ :: _ :: _ :: _ :: _ :: _ :: _ :: _ :: _) [_, _] [_, _, _, _, _, _] _ := H
   refine uP 5 ?_
   refine uK (vused_zero (S := fun _ => True) (H.viewM 0 rfl (by simp))) ?_
   rintro _ w91 hE92 rfl
   have H := H.ext hE92
   refine uP 4 ?_
   refine uKS (vscrub_zero ((H.lend (M1 := [_]) (W1 := [])).pick [] rfl)) ?_
   rintro _ w93 ⟨a94, c95, rfl, H'⟩
   have H := H.back (M1 := [_]) (W1 := []) H'
   have H : Hp w S [] (_ :: _ :: _ :: _ :: _ :: _ :: _ :: _ :: _) [_, _] [_, _, _, _, _, _] _ := H
   refine uP 7 ?_
   refine uV 82 0 (H.cells 7 rfl) ?_
   refine qK .seq (some 163) (sq 53 55) 41 #[.P b38 0, .agg #[.int .u64 C.head.id.version, .I C.head.id.index, .int .u64 C.head.id.epoch], .I 0] (vrot_zero (S := fun _ => True) (D := C.head.id) (H.viewM 0 rfl (by simp))) ?_
   rintro _ w98 hE99 rfl
   have H := H.ext hE99
   refine uF 2 ?_
   refine uR 4 [.l [10, 0, 1, 0, 0], .b 2, .c [11]] ?_
   refine WK.again ?_
   refine uR 6 [.c [11, 0], .c [12]] ?_
   refine qG (sq 0 2) ?_
   refine uK (heads9_spec (S := fun _ => True) (H.viewF 5 rfl)) ?_
   rintro _ w100 hE101 rfl
   have H := H.ext hE101
   refine uF 1 ?_
   refine qT (.bool true) Tryz.func11 ?_
   exact ⟨_, rfl, H.done, rfl⟩
set_option maxHeartbeats 2000000 in
theorem refuses9_no {S : Nat → Prop} {w : World} {x : ByteArray} (hx : x.size ≤ 140737488355328) (x1 : Int) (hpn : ¬ PlainN x) (hqt : (0 ≤ x1 ∧ x1 ≤ 268435456)) {C : Chk} {cs : List Value} (hC : chkS.rep S w cs C) (hq : (Fz jQ).p S w) :
 Calls Tryz.prog 11 #[.string x, .I x1, .agg cs.toArray] w (Ret fun v w' => Ext w w' ∧ v = .bool true) := by
 have hsz9 : x.data.size = x.size := rfl
 obtain ⟨cs0C, a1C, k1C, rfl, h0C, h1C⟩ := chk_open hC
 obtain ⟨cs0Chead, rfl, h0Chead, h1Chead, h2Chead, h3Chead⟩ := hdr_open h0C
 obtain ⟨rfl, h0Cheadid, h1Cheadid, h2Cheadid⟩ := cid_open h0Chead
 refine uS1 Tryz.func11 ?_
 have H := Hp.startF (.rp h1C (.cons hq .nil))
 refine uR 1 [.c [0], .c [1]] ?_
 refine qG (sq 0 2) ?_
 refine uC #[.int .u64 C.head.id.version, .I C.head.id.index, .int .u64 C.head.id.epoch, .I C.head.kk, .I C.head.nn, .I C.head.size, .int .u32 ((C.head.sum.toNat : Nat) : Int), .slice a1C C.data.length k1C, .bool C.done_] 102 H ?_
 intro b1 w2 H
 refine uF 1 ?_
 refine uR 1 [.c [1, 0], .c [2]] ?_
 refine WK.join (fun b_ : Bool => b_ = decide ((1 ≤ x.size ∧ x.size ≤ 16) ∧ (0 ≤ x1 ∧ x1 ≤ 268435456))) (fun b_ => [(0, .string x), (1, .I x1), (5, .P b1 0), (7, .bool b_)]) [Cq Tryz.prog 11 [2]] (fun hJ3 => ?_) (fun bj4 hbj5 => ?_)
 ·
  refine qG (sq 0 17) ?_
  refine uP 4 ?_
  refine uD 23 ((((x.size : Nat) : Int) : Int) ≥ 1) (fun h6 => ?_) (fun h6 => ?_)
  ·
   refine uP 5 ?_
   refine uD 28 ((((x.size : Nat) : Int) : Int) ≤ 16) (fun h7 => ?_) (fun h7 => ?_)
   ·
    refine uP 4 ?_
    refine uD 32 ((x1 : Int) ≥ 0) (fun h8 => ?_) (fun h8 => ?_)
    ·
     refine uF 4 ?_
     exact uB (hJ3 (decide ((x1 : Int) ≤ 268435456)) (decide_eq_decide.2 (by constructor <;> intro _ <;> omega)))
    ·
     refine uF 4 ?_
     exact uB (hJ3 false ((decide_eq_false (by omega)).symm))
   ·
    refine uF 8 ?_
    exact uB (hJ3 false ((decide_eq_false (by omega)).symm))
  ·
   refine uF 13 ?_
   exact uB (hJ3 false ((decide_eq_false (by omega)).symm))
 ·
  refine uR 4 [.c [2, 0, 1, 0], .b 0, .c [3]] ?_
  refine uL (α := Nat × Bool) (g := 11) (p := [2, 0, 1, 0, 0]) (fun (i, bb) => [(0, .string x), (1, .I x1), (5, .P b1 0), (7, .bool bb), (8, .I i)]) (fun (i, bb) w' => Hp w S [] [(b1, .cells #[.int .u64 C.head.id.version, .I C.head.id.index, .int .u64 C.head.id.epoch, .I C.head.kk, .I C.head.nn, .I C.head.size, .int .u32 ((C.head.sum.toNat : Nat) : Int), .slice a1C C.data.length k1C, .bool C.done_] 102 (0, 0))] [] [Rp SB [.slice a1C C.data.length k1C] C.data, Fz jQ] w' ∧ i ≤ x.size ∧ (bb = true ↔ MayP x i)) (fun (i, bb) => x.size - i) (0, bj4) ⟨H, Nat.zero_le _, ⟨fun h => ⟨(of_decide_eq_true (hbj5.symm.trans h)).1, fun j hj => absurd hj (Nat.not_lt_zero j)⟩, fun h => hbj5.trans (decide_eq_true ⟨h.1, hqt⟩)⟩⟩ ?_
  rintro ⟨i, bb⟩ w10 ⟨H, ⟨hi, hbb⟩⟩ hback9
  refine uR 3 [.c [2, 0, 1, 0, 0, 0, 1], .c [2, 0, 1, 0, 0, 1], .l [2, 0, 1, 0, 0], .b 0, .c [3]] ?_
  refine qD (((i : Int) : Int) < ((x.size : Nat) : Int)) (fun h11 => ?_) (fun h11 => ?_)
  ·
   refine uR 3 [.c [2, 0, 1, 0, 0, 1, 0, 0], .b 1, .c [2, 0, 1, 0, 0, 2], .l [2, 0, 1, 0, 0], .b 0, .c [3]] ?_
   refine qG (sq 0 14) ?_
   refine uP 2 ?_
   refine uT 43 bb (fun h12 => ?_) (fun h12 => ?_)
   ·
    refine uP 2 ?_
    have hx13 : i < (x).data.size := by have := hsz9; omega
    refine RW.strAt (κ := .seq) (d := some 46) (r := (sq 5 14)) (T := 9) (s := x) (k := .i64) (t := (i : Int)) i (by as_aux_lemma => kernel_rfl) (by as_aux_lemma => kernel_rfl) (by omega) hx13 ?_
    refine uP 3 ?_
    refine uD 49 ((((((x).data[i]'hx13).toNat : Nat) : Int) : Int) ≥ 97) (fun h14 => ?_) (fun h14 => ?_)
    ·
     refine uP 2 ?_
     have hx15 : i < (x).data.size := by have := hsz9; omega
     refine RW.strAt (κ := .seq) (d := some 52) (r := (sq 11 14)) (T := 9) (s := x) (k := .i64) (t := (i : Int)) i (by as_aux_lemma => kernel_rfl) (by as_aux_lemma => kernel_rfl) (by omega) hx15 ?_
     refine uF 3 ?_
     refine uR 1 [.c [2, 0, 1, 0, 0, 2], .l [2, 0, 1, 0, 0], .b 0, .c [3]] ?_
     refine qG (sq 0 3) ?_
     refine uP 1 ?_
     refine uI ((i : Int) + 1) ?_
     refine uF 1 ?_
     exact uB (hback9 (i + 1, decide ((((((x).data[i]'hx15).toNat : Nat) : Int) : Int) ≤ 122)) _ ⟨H, by omega, may_yes hbb (by assumption) (by omega) ⟨fun h => ⟨by omega, by have := of_decide_eq_true h; omega⟩, fun h => decide_eq_true (by omega)⟩⟩ (by first | omega | (simp only []; omega)))
    ·
     refine qF 6 [(0, .string x), (1, .I x1), (5, .P b1 0), (7, .bool false), (8, .I i)] ?_
     refine uR 1 [.c [2, 0, 1, 0, 0, 2], .l [2, 0, 1, 0, 0], .b 0, .c [3]] ?_
     refine qG (sq 0 3) ?_
     refine uP 1 ?_
     refine uI ((i : Int) + 1) ?_
     refine uF 1 ?_
     exact uB (hback9 (i + 1, false) _ ⟨H, by omega, may_bad (by omega) (by omega)⟩ (by first | omega | (simp only []; omega)))
   ·
    refine uF 12 ?_
    refine uR 1 [.c [2, 0, 1, 0, 0, 2], .l [2, 0, 1, 0, 0], .b 0, .c [3]] ?_
    refine qG (sq 0 3) ?_
    refine uP 1 ?_
    refine uI ((i : Int) + 1) ?_
    refine uF 1 ?_
    exact uB (hback9 (i + 1, false) _ ⟨H, by omega, may_no hbb (by assumption)⟩ (by first | omega | (simp only []; omega)))
  ·
   obtain rfl : bb = false := Bool.eq_false_iff.2 fun h => hpn ((may_all (by omega)).1 (hbb.1 h))
   refine uR 2 [.c [3, 0], .c [4]] ?_
   refine qG (sq 0 2) ?_
   refine uK (new_spec (S := Av S w [] (idsOf [(b1, .cells #[.int .u64 C.head.id.version, .I C.head.id.index, .int .u64 C.head.id.epoch, .I C.head.kk, .I C.head.nn, .I C.head.size, .int .u32 ((C.head.sum.toNat : Nat) : Int), .slice a1C C.data.length k1C, .bool C.done_] 102 (0, 0))] []))) ?_
   rintro _ w16 - ⟨db17, x18, y19, rfl, H'⟩
   have H := H.back (M1 := []) (W1 := []) H'
   have H := H.ung 0
   have H : Hp w S [] (_ :: (diskM db17 (newD x18 y19) none 0)) [⟨stepS, 143, .slice none ((newD x18 y19).steps.length) 0, (newD x18 y19).steps⟩] [_, _] _ := H
   have hokdb17 : DOk (newD x18 y19) := newD_ok x18 y19
   refine uF 1 ?_
   refine uR 6 [.c [5, 0], .c [6]] ?_
   refine qG (sq 0 9) ?_
   refine uP 3 ?_
   have hcw0 := newD_CW x18 y19 x
   have hna0 : (newD x18 y19).armed = false := rfl
   have H := H.gat 0 1
   refine uKS (vopen_arg (n := 0) hcw0.di (hcw0.al.mono (Nat.zero_le _)) hpn hx hqt ((H.lend (M1 := (diskM _ _ _ _)) (W1 := [_])).pick [1] rfl)) ?_
   rintro _ w20 ⟨rfl, H'⟩
   have H := H.back (M1 := (diskM _ _ _ _)) (W1 := [_]) H'
   have H := H.ung 0
   have H : Hp w S [] (_ :: _) [_] [_, _] _ := H
   refine uF 5 ?_
   refine uR 1 [.c [6, 0], .c [7]] ?_
   refine qG (sq 0 8) ?_
   refine uP 2 ?_
   refine uK (vopen_nil (S := fun _ => True) x x1) ?_
   rintro _ w21 hE22 rfl
   have H := H.ext hE22
   refine qF 5 [(5, .P b1 0), (7, .bool false), (10, .pointer none), (11, .I 2), (13, .I 1)] ?_
   refine uR 8 [.c [9, 0], .c [10]] ?_
   refine qG (sq 0 5) ?_
   refine uP 2 ?_
   refine uC #[.pointer none, .pointer none, .map none, .I 0, .I 0, .I 0] 119 H ?_
   intro b23 w24 H
   refine RW.new (κ := .seq) (d := some 94) (r := (sq 4 5)) (o := .cells #[.pointer none, .P b23 0] 103 (0, 0)) (v := fun b => .slice (some ⟨b, 0, none⟩) 2 2) (fun b => by as_aux_lemma => kernel_rfl) (nofun) H ?_
   intro b25 w26 H
   refine uF 1 ?_
   refine uR 4 [.c [10, 0, 1, 0], .b 2, .c [11]] ?_
   refine uL (α := Unit) (g := 11) (p := [10, 0, 1, 0, 0]) (fun _ => [(5, .P b1 0), (15, .slice (some ⟨b25, 0, none⟩) 2 2), (16, .I 0)]) (fun _ w' => Hp w S [] ((b25, .cells #[.pointer none, .P b23 0] 103 (0, 0)) :: (b23, .cells #[.pointer none, .pointer none, .map none, .I 0, .I 0, .I 0] 119 (0, 0)) :: (b1, .cells #[.int .u64 C.head.id.version, .I C.head.id.index, .int .u64 C.head.id.epoch, .I C.head.kk, .I C.head.nn, .I C.head.size, .int .u32 ((C.head.sum.toNat : Nat) : Int), .slice a1C C.data.length k1C, .bool C.done_] 102 (0, 0)) :: (diskM db17 (newD x18 y19) none 0)) [⟨stepS, 143, .slice none ((newD x18 y19).steps.length) 0, (newD x18 y19).steps⟩] [Rp SB [.slice a1C C.data.length k1C] C.data, Fz jQ] w' ∧ True) (fun _ => 0) (()) ⟨H, trivial⟩ ?_
   rintro _ w28 ⟨H, hinv1⟩ hback27
   refine uR 8 [.c [10, 0, 1, 0, 0, 1, 0, 0, 0], .c [10, 0, 1, 0, 0, 1, 0, 0, 1], .b 3, .c [10, 0, 1, 0, 0, 2], .l [10, 0, 1, 0, 0], .b 2, .c [11]] ?_
   refine qG (sq 0 5) ?_
   refine uP 3 ?_
   refine uV 103 0 (H.cells 0 rfl) ?_
   refine uF 1 ?_
   refine uR 1 [.c [10, 0, 1, 0, 0, 1, 0, 0, 1, 0], .c [10, 0, 1, 0, 0, 1, 0, 0, 2], .b 3, .c [10, 0, 1, 0, 0, 2], .l [10, 0, 1, 0, 0], .b 2, .c [11]] ?_
   refine qG (sq 0 11) ?_
   refine uP 3 ?_
   refine uV 82 0 (H.cells 2 rfl) ?_
   refine uK (vget_nil (S := fun _ => True) (D := C.head.id)) ?_
   rintro _ w29 hE30 rfl
   have H := H.ext hE30
   refine uP 3 ?_
   refine uC #[.int .u64 0, .I 0, .int .u64 0, .I 0, .I 0, .I 0, .int .u32 0, .slice none 0 0, .bool false] 102 H ?_
   intro b31 w32 H
   refine qW 102 b31 0 (sq 10 11) (.agg #[.int .u64 0, .I 0, .int .u64 0, .I 0, .I 0, .I 0, .int .u32 (((0#32).toNat : Nat) : Int), .slice none 0 0, .bool false]) ((b31, .cells #[.int .u64 0, .I 0, .int .u64 0, .I 0, .I 0, .I 0, .int .u32 (((0#32).toNat : Nat) : Int), .slice none 0 0, .bool false] 102 (0, 0)) :: (b25, .cells #[.pointer none, .P b23 0] 103 (0, 0)) :: (b23, .cells #[.pointer none, .pointer none, .map none, .I 0, .I 0, .I 0] 119 (0, 0)) :: (b1, .cells #[.int .u64 C.head.id.version, .I C.head.id.index, .int .u64 C.head.id.epoch, .I C.head.kk, .I C.head.nn, .I C.head.size, .int .u32 ((C.head.sum.toNat : Nat) : Int), .slice a1C C.data.length k1C, .bool C.done_] 102 (0, 0)) :: (diskM db17 (newD x18 y19) none 0)) H 0 rfl rfl ?_
   intro w33 H
   refine uF 1 ?_
   refine uR 1 [.c [10, 0, 1, 0, 0, 1, 0, 0, 2, 0], .c [10, 0, 1, 0, 0, 1, 0, 0, 3], .b 3, .c [10, 0, 1, 0, 0, 2], .l [10, 0, 1, 0, 0], .b 2, .c [11]] ?_
   refine qG (sq 0 55) ?_
   refine uP 1 ?_
   refine uV 102 0 (H.cells 3 rfl) ?_
   refine qK .seq (some 113) (sq 3 55) 39 #[.pointer none, .agg #[.int .u64 C.head.id.version, .I C.head.id.index, .int .u64 C.head.id.epoch, .I C.head.kk, .I C.head.nn, .I C.head.size, .int .u32 ((C.head.sum.toNat : Nat) : Int), .slice a1C C.data.length k1C, .bool C.done_]] (vprep_nil (S := fun _ => True) (C := C)) ?_
   rintro _ w34 hE35 rfl
   have H := H.ext hE35
   refine uP 5 ?_
   refine uV 82 0 (H.cells 3 rfl) ?_
   refine uK (vsettle_nil (S := fun _ => True) (D := C.head.id)) ?_
   rintro _ w36 hE37 rfl
   have H := H.ext hE37
   refine uP 6 ?_
   refine uV 82 0 (H.cells 3 rfl) ?_
   refine uK (vdrop_nil (S := fun _ => True) (D := C.head.id)) ?_
   rintro _ w38 hE39 rfl
   have H := H.ext hE39
   refine uP 7 ?_
   refine uV 102 0 (H.cells 0 rfl) ?_
   refine uP 1 ?_
   have H := H.add (F := Rp SB [.slice none 0 0] ([] : List (BitVec 8))) Shape.slice_nil
   refine uK (same9_spec (C := (⟨⟨⟨0, 0, 0⟩, 0, 0, 0, 0#32⟩, [], false⟩ : Chk)) (H.rp 0 rfl) (H.rp 0 rfl)) ?_
   rintro _ w40 hE41 rfl
   have H := H.ext hE41
   refine uP 4 ?_
   refine uK (vlist_none (S := fun _ => True)) ?_
   rintro _ w42 hE47 rfl
   have H := H.ext hE47
   refine uP 5 ?_
   refine uK (vused_none (S := fun _ => True)) ?_
   rintro _ w48 hE49 rfl
   have H := H.ext hE49
   refine uP 4 ?_
   refine uK (vscrub_none (S := fun _ => True)) ?_
   rintro _ w50 hE55 rfl
   have H := H.ext hE55
   refine uP 7 ?_
   refine uV 82 0 (H.cells 3 rfl) ?_
   refine qK .seq (some 163) (sq 53 55) 41 #[.pointer none, .agg #[.int .u64 C.head.id.version, .I C.head.id.index, .int .u64 C.head.id.epoch], .I 0] (vrot_nil (S := fun _ => True) (D := C.head.id)) ?_
   rintro _ w56 hE57 rfl
   have H := H.ext hE57
   refine uF 2 ?_
   refine uR 4 [.l [10, 0, 1, 0, 0], .b 2, .c [11]] ?_
   refine WK.again ?_
   refine uR 8 [.c [10, 0, 1, 0, 0, 1, 0, 0, 0], .c [10, 0, 1, 0, 0, 1, 0, 0, 1], .b 3, .c [10, 0, 1, 0, 0, 2], .l [10, 0, 1, 0, 0], .b 2, .c [11]] ?_
   refine qG (sq 0 5) ?_
   refine uP 3 ?_
   refine uV 103 1 (H.cells 1 rfl) ?_
   refine uF 1 ?_
   refine uR 1 [.c [10, 0, 1, 0, 0, 1, 0, 0, 1, 0], .c [10, 0, 1, 0, 0, 1, 0, 0, 2], .b 3, .c [10, 0, 1, 0, 0, 2], .l [10, 0, 1, 0, 0], .b 2, .c [11]] ?_
   refine qG (sq 0 11) ?_
   refine uP 3 ?_
   refine uV 82 0 (H.cells 3 rfl) ?_
   refine uK (vget_zero (S := fun _ => True) (D := C.head.id) (H.viewM 2 rfl (by simp))) ?_
   rintro _ w58 hE59 rfl
   have H := H.ext hE59
   refine uP 3 ?_
   refine uC #[.int .u64 0, .I 0, .int .u64 0, .I 0, .I 0, .I 0, .int .u32 0, .slice none 0 0, .bool false] 102 H ?_
   intro b60 w61 H
   refine qW 102 b60 0 (sq 10 11) (.agg #[.int .u64 0, .I 0, .int .u64 0, .I 0, .I 0, .I 0, .int .u32 (((0#32).toNat : Nat) : Int), .slice none 0 0, .bool false]) ((b60, .cells #[.int .u64 0, .I 0, .int .u64 0, .I 0, .I 0, .I 0, .int .u32 (((0#32).toNat : Nat) : Int), .slice none 0 0, .bool false] 102 (0, 0)) :: (b31, .cells #[.int .u64 0, .I 0, .int .u64 0, .I 0, .I 0, .I 0, .int .u32 (((0#32).toNat : Nat) : Int), .slice none 0 0, .bool false] 102 (0, 0)) :: (b25, .cells #[.pointer none, .P b23 0] 103 (0, 0)) :: (b23, .cells #[.pointer none, .pointer none, .map none, .I 0, .I 0, .I 0] 119 (0, 0)) :: (b1, .cells #[.int .u64 C.head.id.version, .I C.head.id.index, .int .u64 C.head.id.epoch, .I C.head.kk, .I C.head.nn, .I C.head.size, .int .u32 ((C.head.sum.toNat : Nat) : Int), .slice a1C C.data.length k1C, .bool C.done_] 102 (0, 0)) :: (diskM db17 (newD x18 y19) none 0)) H 0 rfl rfl ?_
   intro w62 H
   refine uF 1 ?_
   refine uR 1 [.c [10, 0, 1, 0, 0, 1, 0, 0, 2, 0], .c [10, 0, 1, 0, 0, 1, 0, 0, 3], .b 3, .c [10, 0, 1, 0, 0, 2], .l [10, 0, 1, 0, 0], .b 2, .c [11]] ?_
   refine qG (sq 0 55) ?_
   refine qP 1 (sq 1 55) [(5, .P b1 0), (15, .slice (some ⟨b25, 0, none⟩) 2 2), (16, .I 1), (17, .P b23 0), (18, .P b60 0), (19, .I 1), (111, .P b23 0)] ?_
   refine uV 102 0 (H.cells 4 rfl) ?_
   refine qK .seq (some 113) (sq 3 55) 39 #[.P b23 0, .agg #[.int .u64 C.head.id.version, .I C.head.id.index, .int .u64 C.head.id.epoch, .I C.head.kk, .I C.head.nn, .I C.head.size, .int .u32 ((C.head.sum.toNat : Nat) : Int), .slice a1C C.data.length k1C, .bool C.done_]] (vprep_zero (S := fun _ => True) (C := C) (H.viewM 3 rfl (by simp))) ?_
   rintro _ w63 hE64 rfl
   have H := H.ext hE64
   refine uP 5 ?_
   refine uV 82 0 (H.cells 4 rfl) ?_
   refine uK (vsettle_zero (S := fun _ => True) (D := C.head.id) (H.viewM 3 rfl (by simp))) ?_
   rintro _ w65 hE66 rfl
   have H := H.ext hE66
   refine uP 6 ?_
   refine uV 82 0 (H.cells 4 rfl) ?_
   refine uK (vdrop_zero (S := fun _ => True) (D := C.head.id) (H.viewM 3 rfl (by simp))) ?_
   rintro _ w67 hE68 rfl
   have H := H.ext hE68
   refine uP 7 ?_
   refine uV 102 0 (H.cells 0 rfl) ?_
   refine uP 1 ?_
   refine uK (same9_spec (C := (⟨⟨⟨0, 0, 0⟩, 0, 0, 0, 0#32⟩, [], false⟩ : Chk)) (H.rp 0 rfl) (H.rp 0 rfl)) ?_
   rintro _ w69 hE70 rfl
   have H := H.ext hE70
   refine uP 4 ?_
   have H := H.frontM 3 rfl
   refine uKS (vlist_zero ((H.lend (M1 := [_]) (W1 := [])).pick [] rfl)) ?_
   rintro _ w71 ⟨a72, c73, rfl, H'⟩
   have H := H.back (M1 := [_]) (W1 := []) H'
   have H : Hp w S [] (_ :: _ :: _ :: _ :: _ :: _) [_] [_, _, _] _ := H
   refine uP 5 ?_
   refine uK (vused_zero (S := fun _ => True) (H.viewM 0 rfl (by simp))) ?_
   rintro _ w76 hE77 rfl
   have H := H.ext hE77
   refine uP 4 ?_
   refine uKS (vscrub_zero ((H.lend (M1 := [_]) (W1 := [])).pick [] rfl)) ?_
   rintro _ w78 ⟨a79, c80, rfl, H'⟩
   have H := H.back (M1 := [_]) (W1 := []) H'
   have H : Hp w S [] (_ :: _ :: _ :: _ :: _ :: _) [_] [_, _, _] _ := H
   refine uP 7 ?_
   refine uV 82 0 (H.cells 4 rfl) ?_
   refine qK .seq (some 163) (sq 53 55) 41 #[.P b23 0, .agg #[.int .u64 C.head.id.version, .I C.head.id.index, .int .u64 C.head.id.epoch], .I 0] (vrot_zero (S := fun _ => True) (D := C.head.id) (H.viewM 0 rfl (by simp))) ?_
   rintro _ w83 hE84 rfl
   have H := H.ext hE84
   refine uF 2 ?_
   refine uR 4 [.l [10, 0, 1, 0, 0], .b 2, .c [11]] ?_
   refine WK.again ?_
   refine uR 6 [.c [11, 0], .c [12]] ?_
   refine qG (sq 0 2) ?_
   refine uK (heads9_spec (S := fun _ => True) (H.viewF 2 rfl)) ?_
   rintro _ w85 hE86 rfl
   have H := H.ext hE86
   refine uF 1 ?_
   refine qT (.bool true) Tryz.func11 ?_
   exact ⟨_, rfl, H.done, rfl⟩
set_option maxHeartbeats 2000000 in
theorem refuses9_quota {S : Nat → Prop} {w : World} {x : ByteArray} (hx : x.size ≤ 140737488355328) (x1 : Int) (hqt : ¬ (0 ≤ x1 ∧ x1 ≤ 268435456)) {C : Chk} {cs : List Value} (hC : chkS.rep S w cs C) (hq : (Fz jQ).p S w) :
 Calls Tryz.prog 11 #[.string x, .I x1, .agg cs.toArray] w (Ret fun v w' => Ext w w' ∧ v = .bool true) := by
 have hsz9 : x.data.size = x.size := rfl
 obtain ⟨cs0C, a1C, k1C, rfl, h0C, h1C⟩ := chk_open hC
 obtain ⟨cs0Chead, rfl, h0Chead, h1Chead, h2Chead, h3Chead⟩ := hdr_open h0C
 obtain ⟨rfl, h0Cheadid, h1Cheadid, h2Cheadid⟩ := cid_open h0Chead
 refine uS1 Tryz.func11 ?_
 have H := Hp.startF (.rp h1C (.cons hq .nil))
 refine uR 1 [.c [0], .c [1]] ?_
 refine qG (sq 0 2) ?_
 refine uC #[.int .u64 C.head.id.version, .I C.head.id.index, .int .u64 C.head.id.epoch, .I C.head.kk, .I C.head.nn, .I C.head.size, .int .u32 ((C.head.sum.toNat : Nat) : Int), .slice a1C C.data.length k1C, .bool C.done_] 102 H ?_
 intro b1 w2 H
 refine uF 1 ?_
 refine uR 1 [.c [1, 0], .c [2]] ?_
 refine WK.join (fun b_ : Bool => b_ = decide ((1 ≤ x.size ∧ x.size ≤ 16) ∧ (0 ≤ x1 ∧ x1 ≤ 268435456))) (fun b_ => [(0, .string x), (1, .I x1), (5, .P b1 0), (7, .bool b_)]) [Cq Tryz.prog 11 [2]] (fun hJ3 => ?_) (fun bj4 hbj5 => ?_)
 ·
  refine qG (sq 0 17) ?_
  refine uP 4 ?_
  refine uD 23 ((((x.size : Nat) : Int) : Int) ≥ 1) (fun h6 => ?_) (fun h6 => ?_)
  ·
   refine uP 5 ?_
   refine uD 28 ((((x.size : Nat) : Int) : Int) ≤ 16) (fun h7 => ?_) (fun h7 => ?_)
   ·
    refine uP 4 ?_
    refine uD 32 ((x1 : Int) ≥ 0) (fun h8 => ?_) (fun h8 => ?_)
    ·
     refine uF 4 ?_
     exact uB (hJ3 (decide ((x1 : Int) ≤ 268435456)) (decide_eq_decide.2 (by constructor <;> intro _ <;> omega)))
    ·
     refine uF 4 ?_
     exact uB (hJ3 false ((decide_eq_false (by omega)).symm))
   ·
    refine uF 8 ?_
    exact uB (hJ3 false ((decide_eq_false (by omega)).symm))
  ·
   refine uF 13 ?_
   exact uB (hJ3 false ((decide_eq_false (by omega)).symm))
 ·
  refine uR 4 [.c [2, 0, 1, 0], .b 0, .c [3]] ?_
  refine uL (α := Nat × Bool) (g := 11) (p := [2, 0, 1, 0, 0]) (fun (i, bb) => [(0, .string x), (1, .I x1), (5, .P b1 0), (7, .bool bb), (8, .I i)]) (fun (i, bb) w' => Hp w S [] [(b1, .cells #[.int .u64 C.head.id.version, .I C.head.id.index, .int .u64 C.head.id.epoch, .I C.head.kk, .I C.head.nn, .I C.head.size, .int .u32 ((C.head.sum.toNat : Nat) : Int), .slice a1C C.data.length k1C, .bool C.done_] 102 (0, 0))] [] [Rp SB [.slice a1C C.data.length k1C] C.data, Fz jQ] w' ∧ i ≤ x.size ∧ bb = false) (fun (i, bb) => x.size - i) (0, bj4) ⟨H, Nat.zero_le _, hbj5.trans (decide_eq_false fun q => hqt q.2)⟩ ?_
  rintro ⟨i, bb⟩ w10 ⟨H, ⟨hi, hbb⟩⟩ hback9
  refine uR 3 [.c [2, 0, 1, 0, 0, 0, 1], .c [2, 0, 1, 0, 0, 1], .l [2, 0, 1, 0, 0], .b 0, .c [3]] ?_
  refine qD (((i : Int) : Int) < ((x.size : Nat) : Int)) (fun h11 => ?_) (fun h11 => ?_)
  ·
   refine uR 3 [.c [2, 0, 1, 0, 0, 1, 0, 0], .b 1, .c [2, 0, 1, 0, 0, 2], .l [2, 0, 1, 0, 0], .b 0, .c [3]] ?_
   refine qG (sq 0 14) ?_
   refine uP 2 ?_
   refine uT 43 bb (fun h12 => ?_) (fun h12 => ?_)
   ·
    (rw [hbb] at h12; cases h12)
   ·
    refine uF 12 ?_
    refine uR 1 [.c [2, 0, 1, 0, 0, 2], .l [2, 0, 1, 0, 0], .b 0, .c [3]] ?_
    refine qG (sq 0 3) ?_
    refine uP 1 ?_
    refine uI ((i : Int) + 1) ?_
    refine uF 1 ?_
    exact uB (hback9 (i + 1, false) _ ⟨H, by omega, rfl⟩ (by first | omega | (simp only []; omega)))
  ·
   obtain rfl : bb = false := hbb
   refine uR 2 [.c [3, 0], .c [4]] ?_
   refine qG (sq 0 2) ?_
   refine uK (new_spec (S := Av S w [] (idsOf [(b1, .cells #[.int .u64 C.head.id.version, .I C.head.id.index, .int .u64 C.head.id.epoch, .I C.head.kk, .I C.head.nn, .I C.head.size, .int .u32 ((C.head.sum.toNat : Nat) : Int), .slice a1C C.data.length k1C, .bool C.done_] 102 (0, 0))] []))) ?_
   rintro _ w13 - ⟨db14, x15, y16, rfl, H'⟩
   have H := H.back (M1 := []) (W1 := []) H'
   have H := H.ung 0
   have H : Hp w S [] (_ :: (diskM db14 (newD x15 y16) none 0)) [⟨stepS, 143, .slice none ((newD x15 y16).steps.length) 0, (newD x15 y16).steps⟩] [_, _] _ := H
   have hokdb14 : DOk (newD x15 y16) := newD_ok x15 y16
   refine uF 1 ?_
   refine uR 6 [.c [5, 0], .c [6]] ?_
   refine qG (sq 0 9) ?_
   refine uP 3 ?_
   have hcw0 := newD_CW x15 y16 x
   have hna0 : (newD x15 y16).armed = false := rfl
   have H := H.gat 0 1
   refine RW.callS (d := some 62) (r := (sq 4 9)) (g := 36) (args := #[.P db14 0, .string x, .I x1]) (by as_aux_lemma => kernel_rfl) (vopen_quota (n := 0) hcw0.di (hcw0.al.mono (Nat.zero_le _)) hqt ((H.lend (M1 := diskM db14 (newD x15 y16) none 0) (W1 := [⟨stepS, 143, .slice none ((newD x15 y16).steps.length) 0, (newD x15 y16).steps⟩])).pick [1] rfl)) ?_
   rintro _ w17 ⟨rfl, H'⟩
   have H := H.back (M1 := diskM db14 (newD x15 y16) none 0) (W1 := [⟨stepS, 143, .slice none ((newD x15 y16).steps.length) 0, (newD x15 y16).steps⟩]) H'
   have H := H.ung 0
   have H : Hp w S [] (_ :: _) [_] [_, _] _ := H
   refine uF 5 ?_
   refine uR 1 [.c [6, 0], .c [7]] ?_
   refine qG (sq 0 8) ?_
   refine uP 2 ?_
   refine uK (vopen_nil (S := fun _ => True) x x1) ?_
   rintro _ w18 hE19 rfl
   have H := H.ext hE19
   refine uF 5 ?_
   refine uR 8 [.c [9, 0], .c [10]] ?_
   refine qG (sq 0 5) ?_
   refine uP 2 ?_
   refine uC #[.pointer none, .pointer none, .map none, .I 0, .I 0, .I 0] 119 H ?_
   intro b20 w21 H
   refine RW.new (κ := .seq) (d := some 94) (r := (sq 4 5)) (o := .cells #[.pointer none, .P b20 0] 103 (0, 0)) (v := fun b => .slice (some ⟨b, 0, none⟩) 2 2) (fun b => by as_aux_lemma => kernel_rfl) (nofun) H ?_
   intro b22 w23 H
   refine uF 1 ?_
   refine uR 4 [.c [10, 0, 1, 0], .b 2, .c [11]] ?_
   refine uL (α := Unit) (g := 11) (p := [10, 0, 1, 0, 0]) (fun _ => [(5, .P b1 0), (15, .slice (some ⟨b22, 0, none⟩) 2 2), (16, .I 0)]) (fun _ w' => Hp w S [] ((b22, .cells #[.pointer none, .P b20 0] 103 (0, 0)) :: (b20, .cells #[.pointer none, .pointer none, .map none, .I 0, .I 0, .I 0] 119 (0, 0)) :: (b1, .cells #[.int .u64 C.head.id.version, .I C.head.id.index, .int .u64 C.head.id.epoch, .I C.head.kk, .I C.head.nn, .I C.head.size, .int .u32 ((C.head.sum.toNat : Nat) : Int), .slice a1C C.data.length k1C, .bool C.done_] 102 (0, 0)) :: (diskM db14 (newD x15 y16) none 0)) [⟨stepS, 143, .slice none ((newD x15 y16).steps.length) 0, (newD x15 y16).steps⟩] [Rp SB [.slice a1C C.data.length k1C] C.data, Fz jQ] w' ∧ True) (fun _ => 0) (()) ⟨H, trivial⟩ ?_
   rintro _ w25 ⟨H, hinv1⟩ hback24
   refine uR 8 [.c [10, 0, 1, 0, 0, 1, 0, 0, 0], .c [10, 0, 1, 0, 0, 1, 0, 0, 1], .b 3, .c [10, 0, 1, 0, 0, 2], .l [10, 0, 1, 0, 0], .b 2, .c [11]] ?_
   refine qG (sq 0 5) ?_
   refine uP 3 ?_
   refine uV 103 0 (H.cells 0 rfl) ?_
   refine uF 1 ?_
   refine uR 1 [.c [10, 0, 1, 0, 0, 1, 0, 0, 1, 0], .c [10, 0, 1, 0, 0, 1, 0, 0, 2], .b 3, .c [10, 0, 1, 0, 0, 2], .l [10, 0, 1, 0, 0], .b 2, .c [11]] ?_
   refine qG (sq 0 11) ?_
   refine uP 3 ?_
   refine uV 82 0 (H.cells 2 rfl) ?_
   refine uK (vget_nil (S := fun _ => True) (D := C.head.id)) ?_
   rintro _ w26 hE27 rfl
   have H := H.ext hE27
   refine uP 3 ?_
   refine uC #[.int .u64 0, .I 0, .int .u64 0, .I 0, .I 0, .I 0, .int .u32 0, .slice none 0 0, .bool false] 102 H ?_
   intro b28 w29 H
   refine qW 102 b28 0 (sq 10 11) (.agg #[.int .u64 0, .I 0, .int .u64 0, .I 0, .I 0, .I 0, .int .u32 (((0#32).toNat : Nat) : Int), .slice none 0 0, .bool false]) ((b28, .cells #[.int .u64 0, .I 0, .int .u64 0, .I 0, .I 0, .I 0, .int .u32 (((0#32).toNat : Nat) : Int), .slice none 0 0, .bool false] 102 (0, 0)) :: (b22, .cells #[.pointer none, .P b20 0] 103 (0, 0)) :: (b20, .cells #[.pointer none, .pointer none, .map none, .I 0, .I 0, .I 0] 119 (0, 0)) :: (b1, .cells #[.int .u64 C.head.id.version, .I C.head.id.index, .int .u64 C.head.id.epoch, .I C.head.kk, .I C.head.nn, .I C.head.size, .int .u32 ((C.head.sum.toNat : Nat) : Int), .slice a1C C.data.length k1C, .bool C.done_] 102 (0, 0)) :: (diskM db14 (newD x15 y16) none 0)) H 0 rfl rfl ?_
   intro w30 H
   refine uF 1 ?_
   refine uR 1 [.c [10, 0, 1, 0, 0, 1, 0, 0, 2, 0], .c [10, 0, 1, 0, 0, 1, 0, 0, 3], .b 3, .c [10, 0, 1, 0, 0, 2], .l [10, 0, 1, 0, 0], .b 2, .c [11]] ?_
   refine qG (sq 0 55) ?_
   refine uP 1 ?_
   refine uV 102 0 (H.cells 3 rfl) ?_
   refine qK .seq (some 113) (sq 3 55) 39 #[.pointer none, .agg #[.int .u64 C.head.id.version, .I C.head.id.index, .int .u64 C.head.id.epoch, .I C.head.kk, .I C.head.nn, .I C.head.size, .int .u32 ((C.head.sum.toNat : Nat) : Int), .slice a1C C.data.length k1C, .bool C.done_]] (vprep_nil (S := fun _ => True) (C := C)) ?_
   rintro _ w31 hE32 rfl
   have H := H.ext hE32
   refine uP 5 ?_
   refine uV 82 0 (H.cells 3 rfl) ?_
   refine uK (vsettle_nil (S := fun _ => True) (D := C.head.id)) ?_
   rintro _ w33 hE34 rfl
   have H := H.ext hE34
   refine uP 6 ?_
   refine uV 82 0 (H.cells 3 rfl) ?_
   refine uK (vdrop_nil (S := fun _ => True) (D := C.head.id)) ?_
   rintro _ w35 hE36 rfl
   have H := H.ext hE36
   refine uP 7 ?_
   refine uV 102 0 (H.cells 0 rfl) ?_
   refine uP 1 ?_
   have H := H.add (F := Rp SB [.slice none 0 0] ([] : List (BitVec 8))) Shape.slice_nil
   refine uK (same9_spec (C := (⟨⟨⟨0, 0, 0⟩, 0, 0, 0, 0#32⟩, [], false⟩ : Chk)) (H.rp 0 rfl) (H.rp 0 rfl)) ?_
   rintro _ w37 hE38 rfl
   have H := H.ext hE38
   refine uP 4 ?_
   refine uK (vlist_none (S := fun _ => True)) ?_
   rintro _ w39 hE44 rfl
   have H := H.ext hE44
   refine uP 5 ?_
   refine uK (vused_none (S := fun _ => True)) ?_
   rintro _ w45 hE46 rfl
   have H := H.ext hE46
   refine uP 4 ?_
   refine uK (vscrub_none (S := fun _ => True)) ?_
   rintro _ w47 hE52 rfl
   have H := H.ext hE52
   refine uP 7 ?_
   refine uV 82 0 (H.cells 3 rfl) ?_
   refine qK .seq (some 163) (sq 53 55) 41 #[.pointer none, .agg #[.int .u64 C.head.id.version, .I C.head.id.index, .int .u64 C.head.id.epoch], .I 0] (vrot_nil (S := fun _ => True) (D := C.head.id)) ?_
   rintro _ w53 hE54 rfl
   have H := H.ext hE54
   refine uF 2 ?_
   refine uR 4 [.l [10, 0, 1, 0, 0], .b 2, .c [11]] ?_
   refine WK.again ?_
   refine uR 8 [.c [10, 0, 1, 0, 0, 1, 0, 0, 0], .c [10, 0, 1, 0, 0, 1, 0, 0, 1], .b 3, .c [10, 0, 1, 0, 0, 2], .l [10, 0, 1, 0, 0], .b 2, .c [11]] ?_
   refine qG (sq 0 5) ?_
   refine uP 3 ?_
   refine uV 103 1 (H.cells 1 rfl) ?_
   refine uF 1 ?_
   refine uR 1 [.c [10, 0, 1, 0, 0, 1, 0, 0, 1, 0], .c [10, 0, 1, 0, 0, 1, 0, 0, 2], .b 3, .c [10, 0, 1, 0, 0, 2], .l [10, 0, 1, 0, 0], .b 2, .c [11]] ?_
   refine qG (sq 0 11) ?_
   refine uP 3 ?_
   refine uV 82 0 (H.cells 3 rfl) ?_
   refine uK (vget_zero (S := fun _ => True) (D := C.head.id) (H.viewM 2 rfl (by simp))) ?_
   rintro _ w55 hE56 rfl
   have H := H.ext hE56
   refine uP 3 ?_
   refine uC #[.int .u64 0, .I 0, .int .u64 0, .I 0, .I 0, .I 0, .int .u32 0, .slice none 0 0, .bool false] 102 H ?_
   intro b57 w58 H
   refine qW 102 b57 0 (sq 10 11) (.agg #[.int .u64 0, .I 0, .int .u64 0, .I 0, .I 0, .I 0, .int .u32 (((0#32).toNat : Nat) : Int), .slice none 0 0, .bool false]) ((b57, .cells #[.int .u64 0, .I 0, .int .u64 0, .I 0, .I 0, .I 0, .int .u32 (((0#32).toNat : Nat) : Int), .slice none 0 0, .bool false] 102 (0, 0)) :: (b28, .cells #[.int .u64 0, .I 0, .int .u64 0, .I 0, .I 0, .I 0, .int .u32 (((0#32).toNat : Nat) : Int), .slice none 0 0, .bool false] 102 (0, 0)) :: (b22, .cells #[.pointer none, .P b20 0] 103 (0, 0)) :: (b20, .cells #[.pointer none, .pointer none, .map none, .I 0, .I 0, .I 0] 119 (0, 0)) :: (b1, .cells #[.int .u64 C.head.id.version, .I C.head.id.index, .int .u64 C.head.id.epoch, .I C.head.kk, .I C.head.nn, .I C.head.size, .int .u32 ((C.head.sum.toNat : Nat) : Int), .slice a1C C.data.length k1C, .bool C.done_] 102 (0, 0)) :: (diskM db14 (newD x15 y16) none 0)) H 0 rfl rfl ?_
   intro w59 H
   refine uF 1 ?_
   refine uR 1 [.c [10, 0, 1, 0, 0, 1, 0, 0, 2, 0], .c [10, 0, 1, 0, 0, 1, 0, 0, 3], .b 3, .c [10, 0, 1, 0, 0, 2], .l [10, 0, 1, 0, 0], .b 2, .c [11]] ?_
   refine qG (sq 0 55) ?_
   refine qP 1 (sq 1 55) [(5, .P b1 0), (15, .slice (some ⟨b22, 0, none⟩) 2 2), (16, .I 1), (17, .P b20 0), (18, .P b57 0), (19, .I 1), (111, .P b20 0)] ?_
   refine uV 102 0 (H.cells 4 rfl) ?_
   refine qK .seq (some 113) (sq 3 55) 39 #[.P b20 0, .agg #[.int .u64 C.head.id.version, .I C.head.id.index, .int .u64 C.head.id.epoch, .I C.head.kk, .I C.head.nn, .I C.head.size, .int .u32 ((C.head.sum.toNat : Nat) : Int), .slice a1C C.data.length k1C, .bool C.done_]] (vprep_zero (S := fun _ => True) (C := C) (H.viewM 3 rfl (by simp))) ?_
   rintro _ w60 hE61 rfl
   have H := H.ext hE61
   refine uP 5 ?_
   refine uV 82 0 (H.cells 4 rfl) ?_
   refine uK (vsettle_zero (S := fun _ => True) (D := C.head.id) (H.viewM 3 rfl (by simp))) ?_
   rintro _ w62 hE63 rfl
   have H := H.ext hE63
   refine uP 6 ?_
   refine uV 82 0 (H.cells 4 rfl) ?_
   refine uK (vdrop_zero (S := fun _ => True) (D := C.head.id) (H.viewM 3 rfl (by simp))) ?_
   rintro _ w64 hE65 rfl
   have H := H.ext hE65
   refine uP 7 ?_
   refine uV 102 0 (H.cells 0 rfl) ?_
   refine uP 1 ?_
   refine uK (same9_spec (C := (⟨⟨⟨0, 0, 0⟩, 0, 0, 0, 0#32⟩, [], false⟩ : Chk)) (H.rp 0 rfl) (H.rp 0 rfl)) ?_
   rintro _ w66 hE67 rfl
   have H := H.ext hE67
   refine uP 4 ?_
   have H := H.frontM 3 rfl
   refine uKS (vlist_zero ((H.lend (M1 := [(b20, .cells #[.pointer none, .pointer none, .map none, .I 0, .I 0, .I 0] 119 (0, 0))]) (W1 := [])).pick [] rfl)) ?_
   rintro _ w68 ⟨a69, c70, rfl, H'⟩
   have H := H.back (M1 := [(b20, .cells #[.pointer none, .pointer none, .map none, .I 0, .I 0, .I 0] 119 (0, 0))]) (W1 := []) H'
   have H : Hp w S [] (_ :: _ :: _ :: _ :: _ :: _) [_] [_, _, _] _ := H
   refine uP 5 ?_
   refine uK (vused_zero (S := fun _ => True) (H.viewM 0 rfl (by simp))) ?_
   rintro _ w73 hE74 rfl
   have H := H.ext hE74
   refine uP 4 ?_
   refine uKS (vscrub_zero ((H.lend (M1 := [(b20, .cells #[.pointer none, .pointer none, .map none, .I 0, .I 0, .I 0] 119 (0, 0))]) (W1 := [])).pick [] rfl)) ?_
   rintro _ w75 ⟨a76, c77, rfl, H'⟩
   have H := H.back (M1 := [(b20, .cells #[.pointer none, .pointer none, .map none, .I 0, .I 0, .I 0] 119 (0, 0))]) (W1 := []) H'
   have H : Hp w S [] (_ :: _ :: _ :: _ :: _ :: _) [_] [_, _, _] _ := H
   refine uP 7 ?_
   refine uV 82 0 (H.cells 4 rfl) ?_
   refine qK .seq (some 163) (sq 53 55) 41 #[.P b20 0, .agg #[.int .u64 C.head.id.version, .I C.head.id.index, .int .u64 C.head.id.epoch], .I 0] (vrot_zero (S := fun _ => True) (D := C.head.id) (H.viewM 0 rfl (by simp))) ?_
   rintro _ w80 hE81 rfl
   have H := H.ext hE81
   refine uF 2 ?_
   refine uR 4 [.l [10, 0, 1, 0, 0], .b 2, .c [11]] ?_
   refine WK.again ?_
   refine uR 6 [.c [11, 0], .c [12]] ?_
   refine qG (sq 0 2) ?_
   refine uK (heads9_spec (S := fun _ => True) (H.viewF 2 rfl)) ?_
   rintro _ w82 hE83 rfl
   have H := H.ext hE83
   refine uF 1 ?_
   refine qT (.bool true) Tryz.func11 ?_
   exact ⟨_, rfl, H.done, rfl⟩
theorem refuses9_spec {S : Nat → Prop} {w : World} {x : ByteArray} (hx : x.size ≤ 140737488355328) (x1 : Int) {C : Chk} {cs : List Value} (hC : chkS.rep S w cs C) (hq : (Fz jQ).p S w) :
 Calls Tryz.prog 11 #[.string x, .I x1, .agg cs.toArray] w (Ret fun v w' => Ext w w' ∧ v = .bool true) := by
 by_cases h : 0 ≤ x1 ∧ x1 ≤ 268435456
 · by_cases h2 : PlainN x
   · exact refuses9_yes hx x1 h2 h hC hq
   · exact refuses9_no hx x1 h2 h hC hq
 · exact refuses9_quota hx x1 h hC hq
end Go.Proofs.YtdnibpclkhenmaaGreatDoor
