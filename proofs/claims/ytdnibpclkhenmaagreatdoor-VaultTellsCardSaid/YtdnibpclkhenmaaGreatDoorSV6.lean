import Derived.Test.YtdnibpclkhenmaaGreatDoorSBxB
import Derived.Test.YtdnibpclkhenmaaGreatDoorSV5
import Derived.Test.YtdnibpclkhenmaaGreatDoorSV4
import Derived.Test.YtdnibpclkhenmaaGreatDoorSBxA
namespace Go.Proofs.YtdnibpclkhenmaaGreatDoor
open Go.BX
theorem clone_nil {S : Nat → Prop} {w : World} {xs : List (BitVec 8)} {c : Nat} (h : SB.rep S w [.slice none xs.length c] xs) (hby : xs.length * 1 ≤ 140737488355328) :
 Calls Tryz.prog 95 #[.slice none xs.length c] w (Ret fun v w' => Ext w w' ∧ Hp w S [] [] [⟨Sb, 5, v, xs⟩] [] w') := by
 have hx := Shape.slice_none h
 refine uS1 Tryz.func95 ?_
 have H := Hp.startF (.rp h .nil)
 refine uR 8 [.c [1, 0, 1, 0, 1], .c [2]] ?_
 refine qT (.slice none 0 0) Tryz.func95 ?_
 subst hx
 exact ⟨_, rfl, H.done, (H.pick [] rfl).ownNil Sb 5⟩
theorem clone_some {S : Nat → Prop} {w : World} {xs : List (BitVec 8)} {a : Addr} {c : Nat} (h : SB.rep S w [.slice (some a) xs.length c] xs) (hby : xs.length * 1 ≤ 140737488355328) :
 Calls Tryz.prog 95 #[.slice (some a) xs.length c] w (Ret fun v w' => Ext w w' ∧ Hp w S [] [] [⟨Sb, 5, v, xs⟩] [] w') := by
 refine uS1 Tryz.func95 ?_
 have H := Hp.startF (.rp h .nil)
 refine uR 8 [.c [2, 0], .c [3]] ?_
 refine qG (sq 0 4) ?_
 refine RW.new (κ := .seq) (d := some 5) (r := (sq 1 4)) (o := .cells #[] 5 (0, 0)) (v := fun b => .slice (some ⟨b, 0, none⟩) 0 0) (fun b => by as_aux_lemma => kernel_rfl) (nofun) H ?_
 intro g _ H
 refine uP 1 ?_
 have H := H.toOwn (sh := Sb) (xs := []) (cap := 0) (by rfl) (Nat.le_refl _) (Nat.zero_le _) (by simp) EsP.nil
 have H : Hp w S [] [] [⟨Sb, 5, .slice (some ⟨g, 0, none⟩) 0 0, []⟩] [_] _ := H
 refine uA 23 23 1 xs H 0 rfl 0 rfl (rfl) (by omega) ?_
 intro e f _ H _
 have H : Hp w S [] [] [⟨Sb, 5, .slice e xs.length f, xs⟩] [_] _ := H
 refine uF 1 ?_
 refine qT (.slice e xs.length f) Tryz.func95 ?_
 exact ⟨_, rfl, H.done, H.pick [] rfl⟩
theorem clone_spec {S : Nat → Prop} {w : World} {xs : List (BitVec 8)} {a : Option Addr} {c : Nat} (h : SB.rep S w [.slice a xs.length c] xs) (hby : xs.length * 1 ≤ 140737488355328) :
 Calls Tryz.prog 95 #[.slice a xs.length c] w (Ret fun v w' => Ext w w' ∧ Hp w S [] [] [⟨Sb, 5, v, xs⟩] [] w') := by
 cases a with
 | none => exact clone_nil h hby
 | some a => exact clone_some h hby
theorem take_eq8 {xs ys : List (BitVec 8)} {k : Nat} (hx : k < xs.length) (hy : k < ys.length) (h : xs.take k = ys.take k) (he : xs[k] = ys[k]) : xs.take (k + 1) = ys.take (k + 1) := by
 rw [List.take_succ_eq_append_getElem hx, List.take_succ_eq_append_getElem hy, h, he]
theorem ne_at8 {xs ys : List (BitVec 8)} {k : Nat} (hx : k < xs.length) (hy : k < ys.length) (he : xs[k] ≠ ys[k]) : xs ≠ ys := fun h => he (by subst h; rfl)
theorem getD_at {xs : List (BitVec 8)} {k : Nat} (h : k < xs.length) : xs[k] = xs.getD k 0#8 := by
 rw [List.getD_eq_getElem?_getD, List.getElem?_eq_getElem h]; rfl
theorem bv_int {x y : BitVec 8} : ((x.toNat : Nat) : Int) = ((y.toNat : Nat) : Int) ↔ x = y := ⟨fun h => BitVec.eq_of_toNat_eq (by omega), fun h => by rw [h]⟩
theorem equalB_spec {S : Nat → Prop} {w : World} {xs ys : List (BitVec 8)} {a a2 : Option Addr} {c c2 : Nat} (h : SB.rep S w [.slice a xs.length c] xs) (h2 : SB.rep S w [.slice a2 ys.length c2] ys) :
 Calls Tryz.prog 91 #[.slice a xs.length c, .slice a2 ys.length c2] w (Ret fun v w' => Ext w w' ∧ v = .bool (decide (xs = ys))) := by
 have hlen := Shape.slice_len h
 have r := Shape.slice_len h2
 refine uS1 Tryz.func91 ?_
 have H := Hp.startF (.rp h (.rp h2 .nil))
 refine uR 5 [.c [1, 0, 1], .c [2]] ?_
 refine qN ((xs.length : Nat) : Int) ((ys.length : Nat) : Int) (fun s => ?_) (fun s => ?_)
 ·
  refine uR 2 [.c [1, 0, 1, 0, 1], .c [2]] ?_
  refine qT (.bool false) Tryz.func91 ?_
  refine ⟨_, rfl, H.done, ?_⟩
  congr 1
  exact (decide_eq_false (fun q => by subst q; omega)).symm
 ·
  refine uR 5 [.c [2, 0, 1, 0], .b 0, .c [3]] ?_
  refine uL (α := Nat) (g := 91) (p := [2, 0, 1, 0, 0]) (fun k => [(0, .slice a xs.length c), (1, .slice a2 ys.length c2), (12, .I ((xs.length : Nat) : Int)), (13, .I k)]) (fun k w' => Hp w S [] [] [] [Rp SB [.slice a xs.length c] xs, Rp SB [.slice a2 ys.length c2] ys] w' ∧ k ≤ xs.length ∧ xs.take k = ys.take k) (fun k => xs.length - k) 0 ⟨H, Nat.zero_le _, rfl⟩ ?_
  rintro k n ⟨H, d⟩ e
  refine uR 3 [.c [2, 0, 1, 0, 0, 1, 0], .c [2, 0, 1, 0, 0, 2], .l [2, 0, 1, 0, 0], .b 0, .c [3]] ?_
  refine qD (((k : Int) : Int) < ((xs.length : Nat) : Int)) (fun t => ?_) (fun t => ?_)
  ·
   refine uR 6 [.c [2, 0, 1, 0, 0, 2, 0, 0, 1, 0], .c [2, 0, 1, 0, 0, 2, 0, 0, 2], .b 1, .c [2, 0, 1, 0, 0, 3], .l [2, 0, 1, 0, 0], .b 0, .c [3]] ?_
   refine WK.draw1 9 (qs [0, 1, 2, 3, 4, 5, 6, 7, 8]) (qs [0, 1, 2, 3, 4, 5, 6, 7, 8]) Tryz_mixed (by as_aux_lemma => kernel_rfl) (by as_aux_lemma => kernel_rfl) (by as_aux_lemma => kernel_rfl) ?_
   have H := H.draw
   generalize ({ n with drawn := n.drawn + 1 } : World) = u at H ⊢
   refine uP 2 ?_
   have o : k < xs.length := by omega
   refine uX 23 (k : Int) H 0 rfl k (by omega) (List.getElem?_eq_getElem o) ?_
   intro _ _ _ i H
   obtain rfl := i
   refine uV 5 0 (H.fc 0 rfl) ?_
   refine uP 2 ?_
   have j : k < ys.length := by omega
   refine uX 23 (k : Int) H 2 rfl k (by omega) (List.getElem?_eq_getElem j) ?_
   intro _ _ _ m H
   obtain rfl := m
   refine uV 5 0 (H.fc 0 rfl) ?_
   refine uF 1 ?_
   refine qN (((xs[k]).toNat : Nat) : Int) (((ys[k]).toNat : Nat) : Int) (fun f => ?_) (fun f => ?_)
   ·
    have hxe : xs[k] ≠ ys[k] := fun q => f (bv_int.2 q)
    refine uR 2 [.c [2, 0, 1, 0, 0, 2, 0, 0, 2, 0, 1], .b 1, .c [2, 0, 1, 0, 0, 3], .l [2, 0, 1, 0, 0], .b 0, .c [3]] ?_
    refine qT (.bool false) Tryz.func91 ?_
    refine ⟨_, rfl, H.done, ?_⟩
    congr 1
    exact (decide_eq_false (ne_at8 (by omega) (by omega) hxe)).symm
   ·
    have hxe : xs[k] = ys[k] := bv_int.1 f
    refine uR 2 [.c [2, 0, 1, 0, 0, 3], .l [2, 0, 1, 0, 0], .b 0, .c [3]] ?_
    refine qG (sq 0 2) ?_
    refine uI ((k : Int) + 1) ?_
    refine uF 1 ?_
    have H := H.pick [2, 3] rfl
    exact uB (e (k + 1) _ ⟨H, by omega, take_eq8 (by omega) (by omega) d.2 hxe⟩ (by first | omega | (simp only []; omega)))
  ·
   refine uR 3 [.c [4]] ?_
   refine qT (.bool true) Tryz.func91 ?_
   refine ⟨_, rfl, H.done, ?_⟩
   congr 1
   exact (decide_eq_true (by have h9 := d.2; rwa [List.take_of_length_le (by omega), List.take_of_length_le (by omega)] at h9)).symm
theorem vput_spec {S : Nat → Prop} {w : World} {xs : List (BitVec 8)} {a : Option Addr} {c : Nat} (h : SB.rep S w [.slice a xs.length c] xs) {C : Chk} {a2 : Option Addr} {c2 : Nat} (hC : ChkOk C) (hdt : SB.rep S w [.slice a2 C.data.length c2] C.data) (hl : xs.length ≤ 17592186044416 - 200000)  :
 Calls Tryz.prog 93 #[.slice a xs.length c, .agg #[.int .u64 C.head.id.version, .I C.head.id.index, .int .u64 C.head.id.epoch, .I C.head.kk, .I C.head.nn, .I C.head.size, .int .u32 ((C.head.sum.toNat : Nat) : Int), .slice a2 C.data.length c2, .bool C.done_]] w (Ret fun v w' => Ext w w' ∧ Hp w S [] [] [⟨Sb, 5, v, xs ++ chkE C⟩] [] w') := by
 obtain ⟨b, _⟩ := hC
 have m := hdrE_len b
 have n : (bytesE C.data).length ≤ 65546 := by unfold bytesE; rw [List.length_append]; have := @num_ten C.data.length (by omega); omega
 refine uS1 Tryz.func93 ?_
 have H := Hp.startF (.rp h (.rp hdt .nil))
 refine uR 1 [.c [0], .c [1]] ?_
 refine qG (sq 0 2) ?_
 refine uC #[.int .u64 C.head.id.version, .I C.head.id.index, .int .u64 C.head.id.epoch, .I C.head.kk, .I C.head.nn, .I C.head.size, .int .u32 ((C.head.sum.toNat : Nat) : Int), .slice a2 C.data.length c2, .bool C.done_] 102 H ?_
 intro l i H
 refine uF 1 ?_
 refine uR 1 [.c [1, 0], .c [2]] ?_
 refine WK.draw1 11 [(0, .qui), (1, .qui), (2, .qui), (4, .qui), (5, .qui), (7, .qui), (8, .qui), (3, .chn), (6, .chn), (9, .chn), (10, .qui)] [(0, .qui), (1, .qui), (2, .qui), (4, .qui), (5, .qui), (7, .qui), (8, .qui), (3, .chn), (6, .chn), (9, .chn), (10, .qui)] Tryz_mixed (by as_aux_lemma => kernel_rfl) (by as_aux_lemma => kernel_rfl) (by as_aux_lemma => kernel_rfl) ?_
 have H := H.draw
 generalize ({ i with drawn := i.drawn + 1 } : World) = o at H ⊢
 refine uP 2 ?_
 refine uV 100 0 (H.cells 0 rfl) ?_
 refine uP 1 ?_
 refine uV 23 7 (H.cells 0 rfl) ?_
 refine uP 1 ?_
 refine uV 4 8 (H.cells 0 rfl) ?_
 refine uK (puthdr_spec (xs := xs) (H.rp 0 rfl) (D := C.head) b (by first | omega | (simp only [List.length_append]; omega))) ?_
 rintro _ _ - H'
 have H := H.back (M1 := []) (W1 := []) H'
 obtain ⟨j, k, rfl, _, _⟩ := H.ownForm 0 rfl
 have H : Hp w S [] [(l, .cells #[.int .u64 C.head.id.version, .I C.head.id.index, .int .u64 C.head.id.epoch, .I C.head.kk, .I C.head.nn, .I C.head.size, .int .u32 ((C.head.sum.toNat : Nat) : Int), .slice a2 C.data.length c2, .bool C.done_] 102 (0, 0))] [⟨Sb, 5, .slice j (xs ++ hdrE C.head).length k, (xs ++ hdrE C.head)⟩] [_, _] _ := H
 have H : Hp w S [] [_] [] [Rp SB [.slice j (xs ++ hdrE C.head).length k] (xs ++ hdrE C.head), _, _] _ := H.freezeW 0 rfl
 refine uK (putbytes_spec (xs := (xs ++ hdrE C.head)) (ys := C.data) (H.rp 0 rfl) (H.rp 2 rfl) (by first | omega | (simp only [List.length_append]; omega))) ?_
 rintro _ _ - H'
 have H := H.back (M1 := []) (W1 := []) H'
 obtain ⟨d, e, rfl, _, _⟩ := H.ownForm 0 rfl
 have H : Hp w S [] [_] [⟨Sb, 5, .slice d (((xs ++ hdrE C.head) ++ bytesE C.data).length) e, ((xs ++ hdrE C.head) ++ bytesE C.data)⟩] [_, _, _] _ := H
 have H : Hp w S [] [_] [] [Rp SB [.slice d (((xs ++ hdrE C.head) ++ bytesE C.data).length) e] ((xs ++ hdrE C.head) ++ bytesE C.data), _, _, _] _ := H.freezeW 0 rfl
 refine uK (putflag_spec (xs := ((xs ++ hdrE C.head) ++ bytesE C.data)) (H.rp 0 rfl) C.done_ (by first | omega | (simp only [List.length_append]; omega))) ?_
 rintro _ _ - H'
 have H := H.back (M1 := []) (W1 := []) H'
 obtain ⟨f, g, rfl, _, _⟩ := H.ownForm 0 rfl
 have H : Hp w S [] [_] [⟨Sb, 5, .slice f ((((xs ++ hdrE C.head) ++ bytesE C.data) ++ flagE C.done_).length) g, (((xs ++ hdrE C.head) ++ bytesE C.data) ++ flagE C.done_)⟩] [_, _, _, _] _ := H
 refine uF 1 ?_
 refine qT (.slice f ((((xs ++ hdrE C.head) ++ bytesE C.data) ++ flagE C.done_).length) g) Tryz.func93 ?_
 have hzz : (((xs ++ hdrE C.head) ++ bytesE C.data) ++ flagE C.done_) = xs ++ chkE C := by unfold chkE; simp only [List.append_assoc]
 rw [hzz] at H ⊢
 have H := H.pick [] rfl
 have H := H.dropM 0
 exact ⟨_, rfl, H.done, H⟩
theorem vrecord_spec {S : Nat → Prop} {w : World} {D : CID} (k : Nat) (hk : k ≤ 3) (hD : CidOk D)  :
 Calls Tryz.prog 96 #[.int .u64 (k : Int), .agg #[.int .u64 D.version, .I D.index, .int .u64 D.epoch]] w (Ret fun v w' => Ext w w' ∧ Hp w S [] [] [⟨Sb, 5, v, num k ++ hdrE (hdr0 D)⟩] [] w') := by
 have hH : HdrOk (hdr0 D) := hdr0_ok hD
 have h : (num k).length ≤ 10 := num_ten (by omega)
 refine uS1 Tryz.func96 ?_
 have H := Hp.startF (w := w) (S := S) (G := []) .nil
 refine uR 1 [.c [0], .c [1]] ?_
 refine qG (sq 0 2) ?_
 refine uC #[.int .u64 D.version, .I D.index, .int .u64 D.epoch] 82 H ?_
 intro g d H
 refine uF 1 ?_
 refine uR 1 [.c [1, 0], .c [2]] ?_
 refine WK.draw1 6 [(0, .qui), (2, .qui), (3, .qui), (1, .chn), (4, .chn), (5, .qui)] [(0, .qui), (2, .qui), (3, .qui), (1, .chn), (4, .chn), (5, .qui)] Tryz_mixed (by as_aux_lemma => kernel_rfl) (by as_aux_lemma => kernel_rfl) (by as_aux_lemma => kernel_rfl) ?_
 have H := H.draw
 generalize ({ d with drawn := d.drawn + 1 } : World) = i at H ⊢
 refine uP 1 ?_
 refine uV 82 0 (H.cells 0 rfl) ?_
 refine uP 1 ?_
 have H := H.add (F := Rp SB [.slice none 0 0] ([] : List (BitVec 8))) Shape.slice_nil
 refine uK (putnum_spec (xs := ([] : List (BitVec 8))) (H.rp 0 rfl) k (by omega) (by first | (simp only [List.length_append, List.length_nil]; omega) | (simp only [List.length_nil]; omega))) ?_
 rintro _ _ - H'
 have H := H.back (M1 := []) (W1 := []) H'
 obtain ⟨e, f, rfl, _, _⟩ := H.ownForm 0 rfl
 have H : Hp w S [] [(g, .cells #[.int .u64 D.version, .I D.index, .int .u64 D.epoch] 82 (0, 0))] [⟨Sb, 5, .slice e ((([] : List (BitVec 8)) ++ num k).length) f, (([] : List (BitVec 8)) ++ num k)⟩] [_] _ := H
 have H : Hp w S [] [_] [] [Rp SB [.slice e ((([] : List (BitVec 8)) ++ num k).length) f] (([] : List (BitVec 8)) ++ num k), _] _ := H.freezeW 0 rfl
 refine uK (puthdr_spec (xs := (([] : List (BitVec 8)) ++ num k)) (H.rp 0 rfl) (D := ⟨D, 0, 0, 0, 0#32⟩) hH (by first | (simp only [List.length_append, List.length_nil]; omega) | (simp only [List.length_nil]; omega))) ?_
 rintro _ _ - H'
 have H := H.back (M1 := []) (W1 := []) H'
 obtain ⟨a, b, rfl, _, _⟩ := H.ownForm 0 rfl
 have H : Hp w S [] [_] [⟨Sb, 5, .slice a (((([] : List (BitVec 8)) ++ num k) ++ hdrE (⟨D, 0, 0, 0, 0#32⟩)).length) b, ((([] : List (BitVec 8)) ++ num k) ++ hdrE (⟨D, 0, 0, 0, 0#32⟩))⟩] [_, _] _ := H
 refine uF 1 ?_
 refine qT (.slice a (((([] : List (BitVec 8)) ++ num k) ++ hdrE (⟨D, 0, 0, 0, 0#32⟩)).length) b) Tryz.func96 ?_
 have hzz : ((([] : List (BitVec 8)) ++ num k) ++ hdrE (⟨D, 0, 0, 0, 0#32⟩)) = num k ++ hdrE (hdr0 D) := by rw [List.nil_append]; rfl
 rw [hzz] at H ⊢
 have H := H.pick [] rfl
 have H := H.dropM 0
 exact ⟨_, rfl, H.done, H⟩
theorem vget_spec {S : Nat → Prop} {w : World} {xs r : List (BitVec 8)} {a : Option Addr} {c k : Nat} (h : SB.rep S w [.slice a xs.length c] xs) {C : Chk} (hC : ChkOk C) (hk : k ≤ xs.length) (hd : xs.drop k = chkE C ++ r) :
 Calls Tryz.prog 83 #[.slice a xs.length c, .I k] w (Ret fun v w' => Ext w w' ∧ ∃ (a' : Option Addr) (c' : Nat), v = .tuple #[.agg #[.int .u64 C.head.id.version, .I C.head.id.index, .int .u64 C.head.id.epoch, .I C.head.kk, .I C.head.nn, .I C.head.size, .int .u32 ((C.head.sum.toNat : Nat) : Int), .slice a' C.data.length c', .bool C.done_], .I ((k + (chkE C).length : Nat) : Int)] ∧ Hp w S [] [] [⟨Sb, 5, .slice a' C.data.length c', C.data⟩] [] w') := by
 have hal := Shape.slice_len h
 obtain ⟨n, _⟩ := hC
 unfold chkE at hd
 simp only [List.append_assoc] at hd
 refine uS1 Tryz.func83 ?_
 have H := Hp.startF (.rp h .nil)
 refine uR 1 [.c [0], .c [1]] ?_
 refine qG (sq 0 2) ?_
 refine uC #[.int .u64 0, .I 0, .int .u64 0, .I 0, .I 0, .I 0, .int .u32 0, .slice none 0 0, .bool false] 102 H ?_
 intro p _ H
 refine uF 1 ?_
 refine uR 1 [.c [1, 0], .c [2]] ?_
 refine qG (sq 0 11) ?_
 refine uP 2 ?_
 refine uK (header_spec (S := fun _ => True) (D := C.head) (H.viewR 0 rfl) n hk hd) ?_
 rintro _ _ o rfl
 have H := H.ext o
 have g := drop_app hd
 have j : (k + (hdrE C.head).length) ≤ xs.length := by have h9 := drop_in hd hk; omega
 refine uP 4 ?_
 refine uC #[.int .u64 0, .I 0, .int .u64 0, .I 0, .I 0, .I 0, .int .u32 0] 100 H ?_
 intro q _ H
 refine uW 100 0 #[.int .u64 C.head.id.version, .I C.head.id.index, .int .u64 C.head.id.epoch, .I C.head.kk, .I C.head.nn, .I C.head.size, .int .u32 ((C.head.sum.toNat : Nat) : Int)] H 0 rfl ?_
 intro _ H
 refine uF 2 ?_
 refine uR 1 [.c [2, 0], .c [3]] ?_
 refine qG (sq 0 12) ?_
 refine uP 4 ?_
 refine uK (bytes_spec (ys := C.data) (m := xs.length) (H.rp 0 rfl) j (by have h8 := congrArg List.length hd; unfold bytesE at h8; simp only [List.length_append, List.length_drop] at h8; omega) (by omega) (by omega) g) ?_
 rintro _ _ - ⟨e, f, rfl, H'⟩
 have H := H.back (M1 := []) (W1 := []) H'
 have H : Hp w S [] [_, _] [⟨Sb, 5, .slice e C.data.length f, C.data⟩] [_] _ := H
 have d := drop_app g
 have i : ((k + (hdrE C.head).length) + (bytesE C.data).length) ≤ xs.length := by have h9 := drop_in g j; omega
 refine uF 7 ?_
 refine uR 1 [.c [3, 0], .c [4]] ?_
 refine qG (sq 0 10) ?_
 refine qP 2 (sq 2 10) [(1, .I (((k + (hdrE C.head).length) + (bytesE C.data).length : Nat) : Int)), (4, .P p 0), (6, .P q 0), (8, .slice e C.data.length f), (29, .slice a xs.length c), (30, .I (((k + (hdrE C.head).length) + (bytesE C.data).length : Nat) : Int))] ?_
 refine uK (flag_spec (S := fun _ => True) (b := C.done_) (H.viewR 0 rfl) i d) ?_
 rintro _ _ l rfl
 have H := H.ext l
 have s := drop_app d
 have t : (((k + (hdrE C.head).length) + (bytesE C.data).length) + (flagE C.done_).length) ≤ xs.length := by have h9 := drop_in d i; omega
 refine uF 7 ?_
 refine uR 1 [.c [4, 0], .c [5]] ?_
 refine qG (sq 0 7) ?_
 refine uV 100 0 (H.cells 0 rfl) ?_
 refine uP 4 ?_
 refine uW 102 0 #[.int .u64 C.head.id.version, .I C.head.id.index, .int .u64 C.head.id.epoch, .I C.head.kk, .I C.head.nn, .I C.head.size, .int .u32 ((C.head.sum.toNat : Nat) : Int), .slice e C.data.length f, .bool C.done_] H 1 rfl ?_
 intro _ H
 refine uF 1 ?_
 refine qRB (.tuple #[.agg #[.int .u64 C.head.id.version, .I C.head.id.index, .int .u64 C.head.id.epoch, .I C.head.kk, .I C.head.nn, .I C.head.size, .int .u32 ((C.head.sum.toNat : Nat) : Int), .slice e C.data.length f, .bool C.done_], .I ((((k + (hdrE C.head).length) + (bytesE C.data).length) + (flagE C.done_).length : Nat) : Int)]) Tryz.func83 (v2 (.cell 4 102) (.tmp 5) (vC (H.cells 1 rfl)) vT) ?_
 have H := H.pick [] rfl
 have H := H.take 0 1
 have hkk : ((k + (hdrE C.head).length) + (bytesE C.data).length) + (flagE C.done_).length = k + (chkE C).length := by unfold chkE; simp only [List.length_append]; omega
 exact ⟨_, rfl, H.done, _, _, by rw [hkk], H⟩
theorem vkeep_spec {S : Nat → Prop} {w : World} {O : List Nat} {vb jb db mb c : Nat} {quota count U : Int} {L : VL} {C : Chk} {a2 : Option Addr} {c2 : Nat} (hU : -4611686018427387904 ≤ U ∧ U ≤ 4611686018427387904) (hl : C.data.length ≤ 65536) (H0 : Hp w S O [(vb, .cells #[.P jb 0, .P db 0, .map (some mb), .I quota, .I U, .I count] 119 (0, 0)), (mb, mapO cidV veV L c)] [] [Rp SB [.slice a2 C.data.length c2] C.data, Fall L] w) :
 Calls Tryz.prog 84 #[.P vb 0, .agg #[.int .u64 C.head.id.version, .I C.head.id.index, .int .u64 C.head.id.epoch, .I C.head.kk, .I C.head.nn, .I C.head.size, .int .u32 ((C.head.sum.toNat : Nat) : Int), .slice a2 C.data.length c2, .bool C.done_]] w (Ret fun v w' => v = .tuple #[] ∧ Hp w S O [(vb, .cells #[.P jb 0, .P db 0, .map (some mb), .I quota, .I (U + ((C.data.length : Nat) : Int)), .I count] 119 (0, 0)), (mb, mapO cidV veV (mset C.head.id ⟨C, a2, c2⟩ c L) (mclk C.head.id c L))] [] [Fall (mset C.head.id ⟨C, a2, c2⟩ c L)] w') := by
 refine uS1 Tryz.func84 ?_
 have H := H0
 refine uR 1 [.c [0], .c [1]] ?_
 refine qG (sq 0 1) ?_
 refine uC #[.int .u64 C.head.id.version, .I C.head.id.index, .int .u64 C.head.id.epoch, .I C.head.kk, .I C.head.nn, .I C.head.size, .int .u32 ((C.head.sum.toNat : Nat) : Int), .slice a2 C.data.length c2, .bool C.done_] 102 H ?_
 intro e a H
 refine uF 0 ?_
 refine uR 1 [.c [1, 0], .c [2]] ?_
 refine WK.draw1 8 (qs [0, 1, 2, 3, 4, 5, 6, 7]) [(0, .qui), (1, .qui), (2, .qui), (3, .qui), (4, .qui), (5, .qui), (6, .qui), (7, .qui), (8, .seq)] Tryz_mixed (by as_aux_lemma => kernel_rfl) (by as_aux_lemma => kernel_rfl) (by as_aux_lemma => kernel_rfl) ?_
 have H := H.draw
 generalize ({ a with drawn := a.drawn + 1 } : World) = f at H ⊢
 refine uP 3 ?_
 refine uV 117 2 (H.cells 1 rfl) ?_
 refine uP 2 ?_
 refine uV 82 0 (H.cells 0 rfl) ?_
 refine uV 102 0 (H.cells 0 rfl) ?_
 refine RW.mapSet (d := none) (r := []) (T := 117) (mk := cidV) (vk := veV) (Kt := 82) (E := 102) (M' := [(e, .cells #[.int .u64 C.head.id.version, .I C.head.id.index, .int .u64 C.head.id.epoch, .I C.head.kk, .I C.head.nn, .I C.head.size, .int .u32 ((C.head.sum.toNat : Nat) : Int), .slice a2 C.data.length c2, .bool C.done_] 102 (0, 0)), (vb, .cells #[.P jb 0, .P db 0, .map (some mb), .I quota, .I U, .I count] 119 (0, 0)), (mb, mapO cidV veV (mset C.head.id (⟨C, a2, c2⟩ : VE) c L) (mclk C.head.id c L))]) C.head.id (⟨C, a2, c2⟩ : VE) (by as_aux_lemma => kernel_rfl) H 2 rfl (cid_key) (by as_aux_lemma => kernel_rfl) rfl ?_
 intro b _ H
 have H := H.add (F := Fall (mset C.head.id (⟨C, a2, c2⟩ : VE) c L)) (Fall.set (H.fact 1 rfl) (H.rp 0 rfl))
 refine uF 0 ?_
 refine WK.draw1 10 (qs [0, 1, 2, 3, 4, 5, 6, 7, 8, 9]) [(0, .qui), (1, .qui), (2, .qui), (3, .qui), (4, .qui), (5, .qui), (6, .qui), (7, .qui), (8, .qui), (9, .qui), (10, .seq)] Tryz_mixed (by as_aux_lemma => kernel_rfl) (by as_aux_lemma => kernel_rfl) (by as_aux_lemma => kernel_rfl) ?_
 have H := H.draw
 generalize ({ b with drawn := b.drawn + 1 } : World) = g at H ⊢
 refine uP 3 ?_
 refine uV 3 4 (H.cells 1 rfl) ?_
 refine uP 1 ?_
 refine uV 23 7 (H.cells 0 rfl) ?_
 refine uP 1 ?_
 refine uI (U + ((C.data.length : Nat) : Int)) ?_
 refine uP 2 ?_
 refine uW 3 4 #[.P jb 0, .P db 0, .map (some mb), .I quota, .I (U + ((C.data.length : Nat) : Int)), .I count] H 1 rfl ?_
 intro _ H
 refine qF 0 [] ?_
 refine WK.fin (v := .tuple #[]) Tryz.func84 (by as_aux_lemma => kernel_rfl) ?_
 have H := H.pick [0] rfl
 have H := H.frontM 2 rfl
 have H := H.frontM 2 rfl
 have H := H.dropM 2
 exact ⟨_, rfl, rfl, H⟩
theorem do_prep {S : Nat → Prop} {w : World} {O : List Nat} {vb jb db mb c : Nat} {quota count U : Int} {L : VL} {ar : Option Addr} {cr : Nat} (hU : -4611686018427387904 ≤ U ∧ U ≤ 4611686018427387904) {C : Chk} (hC : ChkOk C) (H0 : Hp w S O [(vb, .cells #[.P jb 0, .P db 0, .map (some mb), .I quota, .I U, .I count] 119 (0, 0)), (mb, mapO cidV veV L c)] [] [Rp SB [.slice ar (num 0 ++ chkE C).length cr] (num 0 ++ chkE C), Fall L] w) :
 Calls Tryz.prog 85 #[.P vb 0, .slice ar (num 0 ++ chkE C).length cr] w (Ret fun v w' => v = .tuple #[] ∧ ∃ (a' : Option Addr) (c' : Nat), Hp w S O [(vb, .cells #[.P jb 0, .P db 0, .map (some mb), .I quota, .I (U + ((C.data.length : Nat) : Int)), .I count] 119 (0, 0)), (mb, mapO cidV veV (mset C.head.id ⟨C, a', c'⟩ c L) (mclk C.head.id c L))] [] [Fall (mset C.head.id ⟨C, a', c'⟩ c L)] w') := by
 have a : (num 0 ++ chkE C).drop 0 = num 0 ++ (chkE C ++ []) := by rw [List.append_nil]; rfl
 have h := hC.2
 refine uS1 Tryz.func85 ?_
 have H := H0
 refine uR 1 [.c [0], .c [1]] ?_
 refine qG (sq 0 9) ?_
 refine uP 1 ?_
 refine uK (number_spec (S := fun _ => True) (n := 0) (H.viewR 0 rfl) (Nat.zero_le _) (by decide) a) ?_
 rintro _ _ g rfl
 have H := H.ext g
 have b := drop_app a
 have f : (0 + (num 0).length) ≤ (num 0 ++ chkE C).length := by have h9 := drop_in a (Nat.zero_le _); omega
 refine uF 7 ?_
 refine uR 5 [.c [1, 0, 1, 0, 0], .c [1, 0, 1, 0, 1], .c [2]] ?_
 refine qG (sq 0 9) ?_
 refine uP 2 ?_
 refine uK (vget_spec (C := C) (H.rp 0 rfl) hC f b) ?_
 rintro _ _ - ⟨d, e, rfl, H'⟩
 have H := H.back (M1 := []) (W1 := []) H'
 have H : Hp w S O [_, _] [⟨Sb, 5, .slice d C.data.length e, C.data⟩] [_, _] _ := H
 have i := drop_app b
 have j : ((0 + (num 0).length) + (chkE C).length) ≤ (num 0 ++ chkE C).length := by have h9 := drop_in b f; omega
 refine uP 3 ?_
 refine uC #[.int .u64 0, .I 0, .int .u64 0, .I 0, .I 0, .I 0, .int .u32 0, .slice none 0 0, .bool false] 102 H ?_
 intro _ _ H
 refine uW 102 0 #[.int .u64 C.head.id.version, .I C.head.id.index, .int .u64 C.head.id.epoch, .I C.head.kk, .I C.head.nn, .I C.head.size, .int .u32 ((C.head.sum.toNat : Nat) : Int), .slice d C.data.length e, .bool C.done_] H 0 rfl ?_
 intro _ H
 refine uF 1 ?_
 refine uR 1 [.c [1, 0, 1, 0, 1, 0], .c [1, 0, 1, 0, 2], .c [2]] ?_
 refine qG (sq 0 3) ?_
 refine uP 1 ?_
 refine uV 102 0 (H.cells 0 rfl) ?_
 have H : Hp w S O [_, _, _] [] [Rp SB [.slice d C.data.length e] C.data, _, _] _ := H.freezeW 0 rfl
 have H := H.frontM 2 rfl
 have H := H.frontM 2 rfl
 refine uKS (vkeep_spec (C := C) (by omega) (by omega) ((H.lend (M1 := [_, _]) (W1 := [])).pick [0, 2] rfl)) ?_
 rintro _ _ ⟨rfl, H'⟩
 have H := H.back (M1 := [_, _]) (W1 := []) H'
 have H : Hp w S O [_, (mb, mapO cidV veV (mset C.head.id ⟨C, d, e⟩ c L) (mclk C.head.id c L)), _] [] [Fall (mset C.head.id ⟨C, d, e⟩ c L), _, _, _] _ := H
 refine uF 0 ?_
 refine qT (.tuple #[]) Tryz.func85 ?_
 have H := H.pick [0] rfl
 have H := H.dropM 2
 exact ⟨_, rfl, rfl, _, _, H⟩
theorem do_settle {S : Nat → Prop} {w : World} {O : List Nat} {vb jb db mb c : Nat} {quota count U : Int} {L : VL} {ar : Option Addr} {cr : Nat} {C : Chk} {D : CID} {a2 : Option Addr} {c2 : Nat} (hD : CidOk D) (hf : mfind D L = some ⟨C, a2, c2⟩)  (H0 : Hp w S O [(vb, .cells #[.P jb 0, .P db 0, .map (some mb), .I quota, .I U, .I count] 119 (0, 0)), (mb, mapO cidV veV L c)] [] [Rp SB [.slice ar ((num 1 ++ hdrE (hdr0 D)).length) cr] (num 1 ++ hdrE (hdr0 D)), Fall L] w) :
 Calls Tryz.prog 85 #[.P vb 0, .slice ar ((num 1 ++ hdrE (hdr0 D)).length) cr] w (Ret fun v w' => v = .tuple #[] ∧ Hp w S O [(vb, .cells #[.P jb 0, .P db 0, .map (some mb), .I quota, .I U, .I count] 119 (0, 0)), (mb, mapO cidV veV (mset D ⟨{ C with done_ := true }, a2, c2⟩ c L) (mclk D c L))] [] [Fall (mset D ⟨{ C with done_ := true }, a2, c2⟩ c L)] w') := by
 have hH : HdrOk (hdr0 D) := hdr0_ok hD
 have a : (num 1 ++ hdrE (hdr0 D)).drop 0 = num 1 ++ (hdrE (hdr0 D) ++ []) := by rw [List.append_nil]; rfl
 refine uS1 Tryz.func85 ?_
 have H := H0
 refine uR 1 [.c [0], .c [1]] ?_
 refine qG (sq 0 9) ?_
 refine uP 1 ?_
 refine uK (number_spec (S := fun _ => True) (n := 1) (H.viewR 0 rfl) (Nat.zero_le _) (by decide) a) ?_
 rintro _ _ j rfl
 have H := H.ext j
 have e := drop_app a
 have f : (0 + (num 1).length) ≤ (num 1 ++ hdrE (hdr0 D)).length := by have h9 := drop_in a (Nat.zero_le _); omega
 refine uF 7 ?_
 refine uR 6 [.c [2, 0], .c [3]] ?_
 refine qG (sq 0 11) ?_
 refine uP 2 ?_
 refine uK (header_spec (S := fun _ => True) (D := (hdr0 D)) (H.viewR 0 rfl) hH f e) ?_
 rintro _ _ k rfl
 have H := H.ext k
 have m := drop_app e
 have o : ((0 + (num 1).length) + (hdrE (hdr0 D)).length) ≤ (num 1 ++ hdrE (hdr0 D)).length := by have h9 := drop_in e f; omega
 refine uP 4 ?_
 refine uC #[.int .u64 0, .I 0, .int .u64 0, .I 0, .I 0, .I 0, .int .u32 0] 100 H ?_
 intro l _ H
 refine uW 100 0 #[.int .u64 ((hdr0 D).id.version), .I ((hdr0 D).id.index), .int .u64 ((hdr0 D).id.epoch), .I ((hdr0 D).kk), .I ((hdr0 D).nn), .I ((hdr0 D).size), .int .u32 ((((hdr0 D).sum).toNat : Nat) : Int)] H 0 rfl ?_
 intro g H
 refine uF 2 ?_
 refine uR 1 [.c [3, 0], .c [4]] ?_
 refine WK.draw1 8 [(0, .qui), (1, .qui), (2, .qui), (3, .qui), (4, .qui), (5, .qui), (6, .qui), (7, .chn)] [(0, .qui), (1, .qui), (2, .qui), (3, .qui), (4, .qui), (5, .qui), (6, .qui), (7, .chn), (8, .seq)] Tryz_mixed (by as_aux_lemma => kernel_rfl) (by as_aux_lemma => kernel_rfl) (by as_aux_lemma => kernel_rfl) ?_
 have H := H.draw
 generalize ({ g with drawn := g.drawn + 1 } : World) = p at H ⊢
 refine uP 3 ?_
 refine uV 117 2 (H.cells 1 rfl) ?_
 refine uP 1 ?_
 refine uV 82 0 (H.cells 0 rfl) ?_
 refine RW.mapGetF (κ := .qui) (d := some 45) (r := [(7, .chn), (8, .seq)]) (T := 117) (mk := cidV) (vk := veV) (Kt := 82) (E := 102) (z := zVE) ((hdr0 D).id) false (some ⟨C, a2, c2⟩) (v := .agg #[.int .u64 C.head.id.version, .I C.head.id.index, .int .u64 C.head.id.epoch, .I C.head.kk, .I C.head.nn, .I C.head.size, .int .u32 ((C.head.sum.toNat : Nat) : Int), .slice a2 C.data.length c2, .bool C.done_]) (by as_aux_lemma => kernel_rfl) H 2 rfl (cid_key) (by as_aux_lemma => kernel_rfl) (fun w_ => zeroE_run (by as_aux_lemma => kernel_rfl) w_) (hf) rfl ?_
 have H := H.add (F := Rp SB [.slice a2 C.data.length c2] C.data) (Fall.at (H.fact 1 rfl) (hf))
 refine uC #[.int .u64 0, .I 0, .int .u64 0, .I 0, .I 0, .I 0, .int .u32 0, .slice none 0 0, .bool false] 102 H ?_
 intro h _ H
 refine uW 102 0 #[.int .u64 C.head.id.version, .I C.head.id.index, .int .u64 C.head.id.epoch, .I C.head.kk, .I C.head.nn, .I C.head.size, .int .u32 ((C.head.sum.toNat : Nat) : Int), .slice a2 C.data.length c2, .bool C.done_] H 0 rfl ?_
 intro _ H
 refine qF 0 [(0, .P vb 0), (1, .slice ar ((num 1 ++ hdrE (hdr0 D)).length) cr), (4, .int .u64 1), (5, .I (((0 + (num 1).length) + (hdrE (hdr0 D)).length : Nat) : Int)), (9, .P l 0), (11, .P h 0)] ?_
 refine uR 7 [.c [5, 0, 1, 0, 0], .c [5, 0, 1, 0, 1], .b 0] ?_
 refine qG (sq 0 2) ?_
 refine uP 1 ?_
 refine uW 4 8 #[.int .u64 C.head.id.version, .I C.head.id.index, .int .u64 C.head.id.epoch, .I C.head.kk, .I C.head.nn, .I C.head.size, .int .u32 ((C.head.sum.toNat : Nat) : Int), .slice a2 C.data.length c2, .bool true] H 0 rfl ?_
 intro i H
 refine uF 0 ?_
 refine WK.draw1 7 (qs [0, 1, 2, 3, 4, 5, 6]) [(0, .qui), (1, .qui), (2, .qui), (3, .qui), (4, .qui), (5, .qui), (6, .qui), (7, .seq)] Tryz_mixed (by as_aux_lemma => kernel_rfl) (by as_aux_lemma => kernel_rfl) (by as_aux_lemma => kernel_rfl) ?_
 have H := H.draw
 generalize ({ i with drawn := i.drawn + 1 } : World) = q at H ⊢
 refine uP 3 ?_
 refine uV 117 2 (H.cells 2 rfl) ?_
 refine uP 1 ?_
 refine uV 82 0 (H.cells 1 rfl) ?_
 refine uV 102 0 (H.cells 0 rfl) ?_
 refine RW.mapSet (d := none) (r := []) (T := 117) (mk := cidV) (vk := veV) (Kt := 82) (E := 102) (M' := [(h, .cells #[.int .u64 C.head.id.version, .I C.head.id.index, .int .u64 C.head.id.epoch, .I C.head.kk, .I C.head.nn, .I C.head.size, .int .u32 ((C.head.sum.toNat : Nat) : Int), .slice a2 C.data.length c2, .bool true] 102 (0, 0)), (l, .cells #[.int .u64 ((hdr0 D).id.version), .I ((hdr0 D).id.index), .int .u64 ((hdr0 D).id.epoch), .I ((hdr0 D).kk), .I ((hdr0 D).nn), .I ((hdr0 D).size), .int .u32 ((((hdr0 D).sum).toNat : Nat) : Int)] 100 (0, 0)), (vb, .cells #[.P jb 0, .P db 0, .map (some mb), .I quota, .I U, .I count] 119 (0, 0)), (mb, mapO cidV veV (mset ((hdr0 D).id) (⟨⟨C.head, C.data, true⟩, a2, c2⟩ : VE) c L) (mclk ((hdr0 D).id) c L))]) ((hdr0 D).id) (⟨⟨C.head, C.data, true⟩, a2, c2⟩ : VE) (by as_aux_lemma => kernel_rfl) H 3 rfl (cid_key) (by as_aux_lemma => kernel_rfl) rfl ?_
 intro _ _ H
 have H := H.add (F := Fall (mset ((hdr0 D).id) (⟨⟨C.head, C.data, true⟩, a2, c2⟩ : VE) c L)) (Fall.set (H.fact 2 rfl) (H.rp 0 rfl))
 refine uF 0 ?_
 refine uR 1 [] ?_
 refine WK.fin (v := .tuple #[]) Tryz.func85 (by as_aux_lemma => kernel_rfl) ?_
 have H := H.pick [0] rfl
 have H := H.frontM 3 rfl
 have H := H.frontM 3 rfl
 have H := H.take 2 0
 exact ⟨_, rfl, rfl, H⟩
theorem do_drop {S : Nat → Prop} {w : World} {O : List Nat} {vb jb db mb c : Nat} {quota count U : Int} {L : VL} {ar : Option Addr} {cr : Nat} {C : Chk} {D : CID} {a2 : Option Addr} {c2 : Nat} (hD : CidOk D) (hf : mfind D L = some ⟨C, a2, c2⟩) (hU : -4611686018427387904 ≤ U ∧ U ≤ 4611686018427387904) (hl : C.data.length ≤ 65536) (H0 : Hp w S O [(vb, .cells #[.P jb 0, .P db 0, .map (some mb), .I quota, .I U, .I count] 119 (0, 0)), (mb, mapO cidV veV L c)] [] [Rp SB [.slice ar ((num 2 ++ hdrE (hdr0 D)).length) cr] (num 2 ++ hdrE (hdr0 D)), Fall L] w) :
 Calls Tryz.prog 85 #[.P vb 0, .slice ar ((num 2 ++ hdrE (hdr0 D)).length) cr] w (Ret fun v w' => v = .tuple #[] ∧ Hp w S O [(vb, .cells #[.P jb 0, .P db 0, .map (some mb), .I quota, .I (U - ((C.data.length : Nat) : Int)), .I count] 119 (0, 0)), (mb, mapO cidV veV (mdel D L) c)] [] [Fall (mdel D L)] w') := by
 have hH : HdrOk (hdr0 D) := hdr0_ok hD
 have a : (num 2 ++ hdrE (hdr0 D)).drop 0 = num 2 ++ (hdrE (hdr0 D) ++ []) := by rw [List.append_nil]; rfl
 refine uS1 Tryz.func85 ?_
 have H := H0
 refine uR 1 [.c [0], .c [1]] ?_
 refine qG (sq 0 9) ?_
 refine uP 1 ?_
 refine uK (number_spec (S := fun _ => True) (n := 2) (H.viewR 0 rfl) (Nat.zero_le _) (by decide) a) ?_
 rintro _ _ k rfl
 have H := H.ext k
 have e := drop_app a
 have f : (0 + (num 2).length) ≤ (num 2 ++ hdrE (hdr0 D)).length := by have h9 := drop_in a (Nat.zero_le _); omega
 refine uF 7 ?_
 refine uR 6 [.c [2, 0], .c [3]] ?_
 refine qG (sq 0 11) ?_
 refine uP 2 ?_
 refine uK (header_spec (S := fun _ => True) (D := (hdr0 D)) (H.viewR 0 rfl) hH f e) ?_
 rintro _ _ l rfl
 have H := H.ext l
 have o := drop_app e
 have p : ((0 + (num 2).length) + (hdrE (hdr0 D)).length) ≤ (num 2 ++ hdrE (hdr0 D)).length := by have h9 := drop_in e f; omega
 refine uP 4 ?_
 refine uC #[.int .u64 0, .I 0, .int .u64 0, .I 0, .I 0, .I 0, .int .u32 0] 100 H ?_
 intro m _ H
 refine uW 100 0 #[.int .u64 ((hdr0 D).id.version), .I ((hdr0 D).id.index), .int .u64 ((hdr0 D).id.epoch), .I ((hdr0 D).kk), .I ((hdr0 D).nn), .I ((hdr0 D).size), .int .u32 ((((hdr0 D).sum).toNat : Nat) : Int)] H 0 rfl ?_
 intro g H
 refine uF 2 ?_
 refine uR 1 [.c [3, 0], .c [4]] ?_
 refine WK.draw1 8 [(0, .qui), (1, .qui), (2, .qui), (3, .qui), (4, .qui), (5, .qui), (6, .qui), (7, .chn)] [(0, .qui), (1, .qui), (2, .qui), (3, .qui), (4, .qui), (5, .qui), (6, .qui), (7, .chn), (8, .seq)] Tryz_mixed (by as_aux_lemma => kernel_rfl) (by as_aux_lemma => kernel_rfl) (by as_aux_lemma => kernel_rfl) ?_
 have H := H.draw
 generalize ({ g with drawn := g.drawn + 1 } : World) = q at H ⊢
 refine uP 3 ?_
 refine uV 117 2 (H.cells 1 rfl) ?_
 refine uP 1 ?_
 refine uV 82 0 (H.cells 0 rfl) ?_
 refine RW.mapGetF (κ := .qui) (d := some 45) (r := [(7, .chn), (8, .seq)]) (T := 117) (mk := cidV) (vk := veV) (Kt := 82) (E := 102) (z := zVE) ((hdr0 D).id) false (some ⟨C, a2, c2⟩) (v := .agg #[.int .u64 C.head.id.version, .I C.head.id.index, .int .u64 C.head.id.epoch, .I C.head.kk, .I C.head.nn, .I C.head.size, .int .u32 ((C.head.sum.toNat : Nat) : Int), .slice a2 C.data.length c2, .bool C.done_]) (by as_aux_lemma => kernel_rfl) H 2 rfl (cid_key) (by as_aux_lemma => kernel_rfl) (fun w_ => zeroE_run (by as_aux_lemma => kernel_rfl) w_) (hf) rfl ?_
 have H := H.add (F := Rp SB [.slice a2 C.data.length c2] C.data) (Fall.at (H.fact 1 rfl) (hf))
 refine uC #[.int .u64 0, .I 0, .int .u64 0, .I 0, .I 0, .I 0, .int .u32 0, .slice none 0 0, .bool false] 102 H ?_
 intro h _ H
 refine uW 102 0 #[.int .u64 C.head.id.version, .I C.head.id.index, .int .u64 C.head.id.epoch, .I C.head.kk, .I C.head.nn, .I C.head.size, .int .u32 ((C.head.sum.toNat : Nat) : Int), .slice a2 C.data.length c2, .bool C.done_] H 0 rfl ?_
 intro i H
 refine qF 0 [(0, .P vb 0), (1, .slice ar ((num 2 ++ hdrE (hdr0 D)).length) cr), (4, .int .u64 2), (5, .I (((0 + (num 2).length) + (hdrE (hdr0 D)).length : Nat) : Int)), (9, .P m 0), (11, .P h 0)] ?_
 refine uR 10 [.c [5, 0, 1, 1, 1, 0, 0], .c [5, 0, 1, 1, 1, 0, 1], .b 0] ?_
 refine WK.draw1 10 (qs [0, 1, 2, 3, 4, 5, 6, 7, 8, 9]) [(0, .qui), (1, .qui), (2, .qui), (3, .qui), (4, .qui), (5, .qui), (6, .qui), (7, .qui), (8, .qui), (9, .qui), (10, .seq)] Tryz_mixed (by as_aux_lemma => kernel_rfl) (by as_aux_lemma => kernel_rfl) (by as_aux_lemma => kernel_rfl) ?_
 have H := H.draw
 generalize ({ i with drawn := i.drawn + 1 } : World) = s at H ⊢
 refine uP 3 ?_
 refine uV 3 4 (H.cells 2 rfl) ?_
 refine uP 1 ?_
 refine uV 23 7 (H.cells 0 rfl) ?_
 refine uP 1 ?_
 refine uI (U - ((C.data.length : Nat) : Int)) ?_
 refine uP 2 ?_
 refine uW 3 4 #[.P jb 0, .P db 0, .map (some mb), .I quota, .I (U - ((C.data.length : Nat) : Int)), .I count] H 2 rfl ?_
 intro j H
 refine uF 0 ?_
 refine WK.draw1 6 (qs [0, 1, 2, 3, 4, 5]) [(0, .qui), (1, .qui), (2, .qui), (3, .qui), (4, .qui), (5, .qui), (6, .seq)] Tryz_mixed (by as_aux_lemma => kernel_rfl) (by as_aux_lemma => kernel_rfl) (by as_aux_lemma => kernel_rfl) ?_
 have H := H.draw
 generalize ({ j with drawn := j.drawn + 1 } : World) = u at H ⊢
 refine uP 3 ?_
 refine uV 117 2 (H.cells 2 rfl) ?_
 refine uP 1 ?_
 refine uV 82 0 (H.cells 1 rfl) ?_
 refine RW.mapDel (d := none) (r := []) (T := 117) (ts := #[117, 82]) (t := 0) (mk := cidV) (vk := veV) (Kt := 82) (E := 102) (M' := [(h, .cells #[.int .u64 C.head.id.version, .I C.head.id.index, .int .u64 C.head.id.epoch, .I C.head.kk, .I C.head.nn, .I C.head.size, .int .u32 ((C.head.sum.toNat : Nat) : Int), .slice a2 C.data.length c2, .bool C.done_] 102 (0, 0)), (m, .cells #[.int .u64 ((hdr0 D).id.version), .I ((hdr0 D).id.index), .int .u64 ((hdr0 D).id.epoch), .I ((hdr0 D).kk), .I ((hdr0 D).nn), .I ((hdr0 D).size), .int .u32 ((((hdr0 D).sum).toNat : Nat) : Int)] 100 (0, 0)), (vb, .cells #[.P jb 0, .P db 0, .map (some mb), .I quota, .I (U - ((C.data.length : Nat) : Int)), .I count] 119 (0, 0)), (mb, mapO cidV veV (mdel ((hdr0 D).id) L) c)]) ((hdr0 D).id) (by as_aux_lemma => kernel_rfl) H 3 rfl (cid_key) (by as_aux_lemma => kernel_rfl) (by as_aux_lemma => kernel_rfl) rfl ?_
 intro _ _ H
 have H := H.add (F := Fall (mdel ((hdr0 D).id) L)) (Fall.del (H.fact 2 rfl) _)
 refine uF 0 ?_
 refine uR 1 [] ?_
 refine WK.fin (v := .tuple #[]) Tryz.func85 (by as_aux_lemma => kernel_rfl) ?_
 have H := H.pick [0] rfl
 have H := H.frontM 3 rfl
 have H := H.frontM 3 rfl
 have H := H.take 2 0
 exact ⟨_, rfl, rfl, H⟩
theorem do_turn {S : Nat → Prop} {w : World} {O : List Nat} {vb jb db mb c : Nat} {quota count U : Int} {L : VL} {ar : Option Addr} {cr : Nat} {C : Chk} {D : CID} {a2 : Option Addr} {c2 : Nat} (hD : CidOk D) (hf : mfind D L = some ⟨C, a2, c2⟩) {bit : Nat} (hb : bit / 8 < C.data.length) (hbl : bit ≤ 18446744073709551615) (hl : C.data.length ≤ 65536) (H0 : Hp w S O [(vb, .cells #[.P jb 0, .P db 0, .map (some mb), .I quota, .I U, .I count] 119 (0, 0)), (mb, mapO cidV veV L c)] [] [Rp SB [.slice ar ((num 3 ++ (hdrE (hdr0 D) ++ num bit)).length) cr] (num 3 ++ (hdrE (hdr0 D) ++ num bit)), Fall L] w) :
 Calls Tryz.prog 85 #[.P vb 0, .slice ar ((num 3 ++ (hdrE (hdr0 D) ++ num bit)).length) cr] w (Ret fun v w' => v = .tuple #[] ∧ ∃ (a' : Option Addr) (c' : Nat), Hp w S O [(vb, .cells #[.P jb 0, .P db 0, .map (some mb), .I quota, .I U, .I count] 119 (0, 0)), (mb, mapO cidV veV (mset D ⟨{ C with data := turnB C.data bit }, a', c'⟩ c L) (mclk D c L))] [] [Fall (mset D ⟨{ C with data := turnB C.data bit }, a', c'⟩ c L)] w') := by
 have hH : HdrOk (hdr0 D) := hdr0_ok hD
 have l : (num 3 ++ (hdrE (hdr0 D) ++ num bit)).drop 0 = num 3 ++ (hdrE (hdr0 D) ++ (num bit ++ [])) := by rw [List.append_nil]; rfl
 refine uS1 Tryz.func85 ?_
 have H := H0
 refine uR 1 [.c [0], .c [1]] ?_
 refine qG (sq 0 9) ?_
 refine uP 1 ?_
 refine uK (number_spec (S := fun _ => True) (n := 3) (H.viewR 0 rfl) (Nat.zero_le _) (by decide) l) ?_
 rintro _ _ R rfl
 have H := H.ext R
 have o := drop_app l
 have y : (0 + (num 3).length) ≤ (num 3 ++ (hdrE (hdr0 D) ++ num bit)).length := by have h9 := drop_in l (Nat.zero_le _); omega
 refine uF 7 ?_
 refine uR 6 [.c [2, 0], .c [3]] ?_
 refine qG (sq 0 11) ?_
 refine uP 2 ?_
 refine uK (header_spec (S := fun _ => True) (D := (hdr0 D)) (H.viewR 0 rfl) hH y o) ?_
 rintro _ _ V rfl
 have H := H.ext V
 have p := drop_app o
 have A : ((0 + (num 3).length) + (hdrE (hdr0 D)).length) ≤ (num 3 ++ (hdrE (hdr0 D) ++ num bit)).length := by have h9 := drop_in o y; omega
 refine uP 4 ?_
 refine uC #[.int .u64 0, .I 0, .int .u64 0, .I 0, .I 0, .I 0, .int .u32 0] 100 H ?_
 intro J _ H
 refine uW 100 0 #[.int .u64 ((hdr0 D).id.version), .I ((hdr0 D).id.index), .int .u64 ((hdr0 D).id.epoch), .I ((hdr0 D).kk), .I ((hdr0 D).nn), .I ((hdr0 D).size), .int .u32 ((((hdr0 D).sum).toNat : Nat) : Int)] H 0 rfl ?_
 intro B H
 refine uF 2 ?_
 refine uR 1 [.c [3, 0], .c [4]] ?_
 refine WK.draw1 8 [(0, .qui), (1, .qui), (2, .qui), (3, .qui), (4, .qui), (5, .qui), (6, .qui), (7, .chn)] [(0, .qui), (1, .qui), (2, .qui), (3, .qui), (4, .qui), (5, .qui), (6, .qui), (7, .chn), (8, .seq)] Tryz_mixed (by as_aux_lemma => kernel_rfl) (by as_aux_lemma => kernel_rfl) (by as_aux_lemma => kernel_rfl) ?_
 have H := H.draw
 generalize ({ B with drawn := B.drawn + 1 } : World) = Z at H ⊢
 refine uP 3 ?_
 refine uV 117 2 (H.cells 1 rfl) ?_
 refine uP 1 ?_
 refine uV 82 0 (H.cells 0 rfl) ?_
 refine RW.mapGetF (κ := .qui) (d := some 45) (r := [(7, .chn), (8, .seq)]) (T := 117) (mk := cidV) (vk := veV) (Kt := 82) (E := 102) (z := zVE) ((hdr0 D).id) false (some ⟨C, a2, c2⟩) (v := .agg #[.int .u64 C.head.id.version, .I C.head.id.index, .int .u64 C.head.id.epoch, .I C.head.kk, .I C.head.nn, .I C.head.size, .int .u32 ((C.head.sum.toNat : Nat) : Int), .slice a2 C.data.length c2, .bool C.done_]) (by as_aux_lemma => kernel_rfl) H 2 rfl (cid_key) (by as_aux_lemma => kernel_rfl) (fun w_ => zeroE_run (by as_aux_lemma => kernel_rfl) w_) (hf) rfl ?_
 have H := H.add (F := Rp SB [.slice a2 C.data.length c2] C.data) (Fall.at (H.fact 1 rfl) (hf))
 refine uC #[.int .u64 0, .I 0, .int .u64 0, .I 0, .I 0, .I 0, .int .u32 0, .slice none 0 0, .bool false] 102 H ?_
 intro h _ H
 refine uW 102 0 #[.int .u64 C.head.id.version, .I C.head.id.index, .int .u64 C.head.id.epoch, .I C.head.kk, .I C.head.nn, .I C.head.size, .int .u32 ((C.head.sum.toNat : Nat) : Int), .slice a2 C.data.length c2, .bool C.done_] H 0 rfl ?_
 intro _ H
 refine qF 0 [(0, .P vb 0), (1, .slice ar ((num 3 ++ (hdrE (hdr0 D) ++ num bit)).length) cr), (4, .int .u64 3), (5, .I (((0 + (num 3).length) + (hdrE (hdr0 D)).length : Nat) : Int)), (9, .P J 0), (11, .P h 0)] ?_
 refine uR 13 [.c [5, 0, 1, 1, 1, 1, 1, 0, 0], .c [5, 0, 1, 1, 1, 1, 1, 0, 1], .b 0] ?_
 refine qG (sq 0 10) ?_
 refine uP 2 ?_
 refine uK (number_spec (S := fun _ => True) (n := bit) (H.viewR 1 rfl) A hbl p) ?_
 rintro _ _ K rfl
 have H := H.ext K
 have X := drop_app p
 have Y : (((0 + (num 3).length) + (hdrE (hdr0 D)).length) + (num bit).length) ≤ (num 3 ++ (hdrE (hdr0 D) ++ num bit)).length := by have h9 := drop_in p A; omega
 refine uF 7 ?_
 refine uR 1 [.c [5, 0, 1, 1, 1, 1, 1, 0, 1, 0], .c [5, 0, 1, 1, 1, 1, 1, 0, 2], .b 0] ?_
 refine qG (sq 0 5) ?_
 refine uP 1 ?_
 refine uV 23 7 (H.cells 0 rfl) ?_
 refine uK (clone_spec (H.rp 0 rfl) (by omega)) ?_
 rintro _ _ - H'
 have H := H.back (M1 := []) (W1 := []) H'
 obtain ⟨f, g, rfl, _, _⟩ := H.ownForm 0 rfl
 have H : Hp w S O [_, _, _, _] [⟨Sb, 5, .slice f C.data.length g, C.data⟩] [_, _, _] _ := H
 refine uP 1 ?_
 refine uW 23 7 #[.int .u64 C.head.id.version, .I C.head.id.index, .int .u64 C.head.id.epoch, .I C.head.kk, .I C.head.nn, .I C.head.size, .int .u32 ((C.head.sum.toNat : Nat) : Int), .slice f C.data.length g, .bool C.done_] H 0 rfl ?_
 intro _ H
 refine uF 0 ?_
 refine uR 1 [.c [5, 0, 1, 1, 1, 1, 1, 0, 2, 0], .c [5, 0, 1, 1, 1, 1, 1, 0, 3], .b 0] ?_
 refine qG (sq 0 12) ?_
 refine uP 1 ?_
 refine uV 23 7 (H.cells 0 rfl) ?_
 refine uP 1 ?_
 refine RW.pv (κ := .seq) (d := some 91) (r := (sq 4 12)) (v := .int .u64 (IntKind.u64.wrap ((bit : Int).tdiv 8))) (v' := .int .u64 ((bit : Int) / 8)) (by as_aux_lemma => kernel_rfl) (quo_u64 (by decide) (by omega)) ?_
 have M : C.data.length = C.data.length := rfl
 have N : (bit / 8) < C.data.length := hb
 refine RW.indexW (κ := .seq) (d := some 92) (r := (sq 5 12)) (T := 23) (e := 5) (m := 1) (ik := .u64) (ix := (bit : Int) / 8) (sh := Sb) (xs := C.data) (a := f) (len := C.data.length) (cap := g) (by as_aux_lemma => kernel_rfl) (by as_aux_lemma => kernel_rfl) rfl H (bit / 8) (by omega) N M ?_
 intro _ _ _ i q
 rw [getD_at hb] at q
 obtain rfl := q
 refine uV 5 0 i ?_
 refine qP 1 (sq 7 12) [(0, .P vb 0), (9, .P J 0), (11, .P h 0), (89, .slice f C.data.length g), (91, .int .u64 ((bit : Int) / 8)), (93, .int .u8 (((C.data.getD (bit / 8) 0#8).toNat : Nat) : Int)), (94, .int .u64 (bit : Int))] ?_
 refine RW.pv (κ := .seq) (d := some 95) (r := (sq 8 12)) (v := .int .u64 ((bit : Int).tmod 8)) (v' := .int .u64 ((bit : Int) % 8)) (by as_aux_lemma => kernel_rfl) (rem_id (by omega)) ?_
 refine RW.readS (κ := .seq) (d := some 96) (r := (sq 9 12)) (s := semV (Op.shift .shl .u8 1 .u64 ((bit : Int) % 8))) (v := .int .u8 ((((1#8) <<< (bit % 8)).toNat : Nat) : Int)) (by as_aux_lemma => kernel_rfl) (fun w' _ => semV_run (shl_run8 (by decide) (j := bit % 8) (by omega) (by omega))) ?_
 refine RW.pv (κ := .seq) (d := some 97) (r := (sq 10 12)) (v := .int .u8 (IntKind.u8.wrap ((BitVec.ofInt 8 (((C.data.getD (bit / 8) 0#8).toNat : Nat) : Int) ^^^ BitVec.ofInt 8 ((((1#8) <<< (bit % 8)).toNat : Nat) : Int)).toNat : Nat))) (v' := .int .u8 (((((C.data.getD (bit / 8) 0#8) ^^^ ((1#8) <<< (bit % 8))).toNat : Nat) : Int))) (by as_aux_lemma => kernel_rfl) (bv_xor8 (bvi _) (bvi _)) ?_
 have t : C.data.length = C.data.length := rfl
 have u : (bit / 8) < C.data.length := hb
 refine RW.indexW (κ := .seq) (d := some 98) (r := (sq 11 12)) (T := 23) (e := 5) (m := 1) (ik := .u64) (ix := (bit : Int) / 8) (sh := Sb) (xs := C.data) (a := f) (len := C.data.length) (cap := g) (by as_aux_lemma => kernel_rfl) (by as_aux_lemma => kernel_rfl) rfl H (bit / 8) (by omega) u t ?_
 intro W _ Q _ x
 rw [getD_at hb] at x
 obtain rfl := x
 refine RW.storeW (d := none) (r := (sq 12 12)) (e := 5) (m := 1) (b := W) (k := (bit / 8)) (v := .int .u8 ((((C.data.getD (bit / 8) 0#8) ^^^ ((1#8) <<< (bit % 8))).toNat : Nat) : Int)) (by as_aux_lemma => kernel_rfl) rfl (by as_aux_lemma => kernel_rfl) H Q u t ((C.data.getD (bit / 8) 0#8) ^^^ ((1#8) <<< (bit % 8))) Shape.bv_mk ?_
 intro G H
 have H := H.reW (ys := turnB C.data bit) (rfl)
 refine uF 0 ?_
 refine WK.draw1 7 (qs [0, 1, 2, 3, 4, 5, 6]) [(0, .qui), (1, .qui), (2, .qui), (3, .qui), (4, .qui), (5, .qui), (6, .qui), (7, .seq)] Tryz_mixed (by as_aux_lemma => kernel_rfl) (by as_aux_lemma => kernel_rfl) (by as_aux_lemma => kernel_rfl) ?_
 have H := H.draw
 generalize ({ G with drawn := G.drawn + 1 } : World) = a0 at H ⊢
 refine uP 3 ?_
 refine uV 117 2 (H.cells 2 rfl) ?_
 refine uP 1 ?_
 refine uV 82 0 (H.cells 1 rfl) ?_
 refine uV 102 0 (H.cells 0 rfl) ?_
 have H : Hp w S O [_, _, _, _] [] [Rp SB [.slice f C.data.length g] (turnB C.data bit), _, _, _] _ := H.freezeW 0 rfl
 rw [show C.data.length = (turnB C.data bit).length from (turnB_len _ _).symm] at H ⊢
 have H : Hp w S O [(h, .cells #[.int .u64 C.head.id.version, .I C.head.id.index, .int .u64 C.head.id.epoch, .I C.head.kk, .I C.head.nn, .I C.head.size, .int .u32 ((C.head.sum.toNat : Nat) : Int), .slice f (turnB C.data bit).length g, .bool C.done_] 102 (0, 0)), _, _, _] [] [Rp SB [.slice f (turnB C.data bit).length g] (turnB C.data bit), Rp SB [.slice a2 (turnB C.data bit).length c2] C.data, _, _] _ := H
 refine RW.mapSet (d := none) (r := []) (T := 117) (mk := cidV) (vk := veV) (Kt := 82) (E := 102) (M' := [(h, .cells #[.int .u64 C.head.id.version, .I C.head.id.index, .int .u64 C.head.id.epoch, .I C.head.kk, .I C.head.nn, .I C.head.size, .int .u32 ((C.head.sum.toNat : Nat) : Int), .slice f (turnB C.data bit).length g, .bool C.done_] 102 (0, 0)), (J, .cells #[.int .u64 ((hdr0 D).id.version), .I ((hdr0 D).id.index), .int .u64 ((hdr0 D).id.epoch), .I ((hdr0 D).kk), .I ((hdr0 D).nn), .I ((hdr0 D).size), .int .u32 ((((hdr0 D).sum).toNat : Nat) : Int)] 100 (0, 0)), (vb, .cells #[.P jb 0, .P db 0, .map (some mb), .I quota, .I U, .I count] 119 (0, 0)), (mb, mapO cidV veV (mset ((hdr0 D).id) (⟨⟨C.head, turnB C.data bit, C.done_⟩, f, g⟩ : VE) c L) (mclk ((hdr0 D).id) c L))]) ((hdr0 D).id) (⟨⟨C.head, turnB C.data bit, C.done_⟩, f, g⟩ : VE) (by as_aux_lemma => kernel_rfl) H 3 rfl (cid_key) (by as_aux_lemma => kernel_rfl) rfl ?_
 intro _ _ H
 have H := H.add (F := Fall (mset ((hdr0 D).id) (⟨⟨C.head, turnB C.data bit, C.done_⟩, f, g⟩ : VE) c L)) (Fall.set (H.fact 3 rfl) (H.rp 0 rfl))
 refine uF 0 ?_
 refine uR 1 [] ?_
 refine WK.fin (v := .tuple #[]) Tryz.func85 (by as_aux_lemma => kernel_rfl) ?_
 have H := H.pick [0] rfl
 have H := H.frontM 3 rfl
 have H := H.frontM 3 rfl
 have H := H.take 2 0
 exact ⟨_, rfl, rfl, _, _, H⟩
theorem do_spec {S : Nat → Prop} {w : World} {O : List Nat} {vb jb db mb : Nat} {quota count : Int} {L : VL} {ar : Option Addr} {cr : Nat} {s : VS} (d : Deed) (hL : cont L = s.1) (hok : okD s d) (hsm : SmallD s) (hu : usedL s.1 ≤ 4611686018427387904)
 (H0 : Hp w S O [(vb, .cells #[.P jb 0, .P db 0, .map (some mb), .I quota, .I (usedL s.1 : Int), .I count] 119 (0, 0)), (mb, mapO cidV veV L s.2)] [] [Rp SB [.slice ar (encD d).length cr] (encD d), Fall L] w) :
 Calls Tryz.prog 85 #[.P vb 0, .slice ar (encD d).length cr] w (Ret fun v w' => v = .tuple #[] ∧ ∃ L', cont L' = (stepD s d).1 ∧ Hp w S O [(vb, .cells #[.P jb 0, .P db 0, .map (some mb), .I quota, .I (usedL (stepD s d).1 : Int), .I count] 119 (0, 0)), (mb, mapO cidV veV L' ((stepD s d).2))] [] [Fall L'] w') := by
 have hub : -4611686018427387904 ≤ (usedL s.1 : Int) ∧ (usedL s.1 : Int) ≤ 4611686018427387904 := by omega
 cases d with
 | prep C =>
  obtain ⟨b, f⟩ := hok
  refine (do_prep hub f H0).mono fun e w' hh => ?_
  obtain ⟨v, he, hv, a', c', H'⟩ := hh
  refine ⟨v, he, hv, mset C.head.id ⟨C, a', c'⟩ s.2 L, ?_, ?_⟩
  · show _ = mset C.head.id C s.2 s.1
    rw [cont_set, hL]
  · have i : (usedL (stepD s (.prep C)).1 : Int) = (usedL s.1 : Int) + ((C.data.length : Nat) : Int) := by
     show (usedL (mset C.head.id C s.2 s.1) : Int) = _
     rw [used_new b]
     push_cast
     rfl
    have j : (stepD s (.prep C)).2 = mclk C.head.id s.2 L := by
     show mclk C.head.id s.2 s.1 = _
     rw [← hL, cont_clk]
    rw [i, j]
    exact H'
 | settle D =>
  obtain ⟨⟨C, b⟩, f⟩ := hok
  obtain ⟨a, k, g⟩ := cont_some (by rw [hL]; exact b)
  refine (do_settle f g H0).mono fun e w' hh => ?_
  obtain ⟨v, he, hv, H'⟩ := hh
  have h : stepD s (.settle D) = (mset D { C with done_ := true } s.2 s.1, mclk D s.2 s.1) := by
   show (match mfind D s.1 with | some c => (mset D { c with done_ := true } s.2 s.1, mclk D s.2 s.1) | none => s) = _
   rw [b]
  refine ⟨v, he, hv, mset D ⟨{ C with done_ := true }, a, k⟩ s.2 L, ?_, ?_⟩
  · rw [h, cont_set, hL]
  · rw [h]
    show Hp _ _ _ [_, (mb, mapO cidV veV _ (mclk D s.2 s.1))] _ _ _
    rw [← hL, cont_clk, hL, show usedL (mset D { C with done_ := true } s.2 s.1) = usedL s.1 from used_old b rfl]
    exact H'
 | drop D =>
  obtain ⟨⟨C, b⟩, f⟩ := hok
  obtain ⟨a, k, g⟩ := cont_some (by rw [hL]; exact b)
  refine (do_drop f g hub (hsm.find b).2 H0).mono fun e w' hh => ?_
  obtain ⟨v, he, hv, H'⟩ := hh
  refine ⟨v, he, hv, mdel D L, ?_, ?_⟩
  · show _ = mdel D s.1
    rw [cont_del, hL]
  · have i : (usedL (stepD s (.drop D)).1 : Int) = (usedL s.1 : Int) - ((C.data.length : Nat) : Int) := by
     show (usedL (mdel D s.1) : Int) = _
     rw [← used_find b]
     push_cast
     omega
    rw [i]
    exact H'
 | turn D bit =>
  obtain ⟨⟨C, b, l, m⟩, f⟩ := hok
  obtain ⟨a, k, g⟩ := cont_some (by rw [hL]; exact b)
  refine (do_turn f g l (by omega) m H0).mono fun e w' hh => ?_
  obtain ⟨v, he, hv, a', c', H'⟩ := hh
  have h : stepD s (.turn D bit) = (mset D { C with data := turnB C.data bit } s.2 s.1, mclk D s.2 s.1) := by
   show (match mfind D s.1 with | some c => (mset D { c with data := turnB c.data bit } s.2 s.1, mclk D s.2 s.1) | none => s) = _
   rw [b]
  refine ⟨v, he, hv, mset D ⟨{ C with data := turnB C.data bit }, a', c'⟩ s.2 L, ?_, ?_⟩
  · rw [h, cont_set, hL]
  · rw [h]
    show Hp _ _ _ [_, (mb, mapO cidV veV _ (mclk D s.2 s.1))] _ _ _
    rw [← hL, cont_clk, hL, show usedL (mset D { C with data := turnB C.data bit } s.2 s.1) = usedL s.1 from used_old b (turnB_len _ _)]
    exact H'
end Go.Proofs.YtdnibpclkhenmaaGreatDoor
