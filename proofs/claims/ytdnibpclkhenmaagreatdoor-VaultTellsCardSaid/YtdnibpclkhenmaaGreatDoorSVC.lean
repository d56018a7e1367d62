import Derived.Test.YtdnibpclkhenmaaGreatDoorSBxB
import Derived.Test.YtdnibpclkhenmaaGreatDoorSVB
namespace Go.Proofs.YtdnibpclkhenmaaGreatDoor
open Go.BX
theorem vsorted_no {S : Nat → Prop} {w : World} {O : List Nat} {bx mb c : Nat} {L : VL} (hM : MOk L c) (hk : ∀ x ∈ L, CidOk x.1) (hl : L.length ≤ 1048576) (hp0 : L = []) (H0 : Hp w S O [(bx, .cells #[.map (some mb)] 117 (0, 0)), (mb, mapO cidV veV L c)] [] [] w) :
 Calls Tryz.prog 97 #[.func (.func 152) #[] #[.P bx 0], .func (.func 99) #[] #[]] w (Ret fun v w' => ∃ (a' : Option Addr) (c' : Nat) (ids : List CID), ids.Perm (L.map (·.1)) ∧ v = .slice a' ids.length c' ∧ Hp w S O [(bx, .cells #[.map (some mb)] 117 (0, 0)), (mb, mapO cidV veV L c)] [⟨cidS, 82, .slice a' ids.length c', ids⟩] [] w') := by
 refine uS1 Tryz.func97 ?_
 have H := H0
 refine uR 3 [.c [1, 0], .c [2]] ?_
 refine qG (sq 0 3) ?_
 refine uP 1 ?_
 have H := H.frontM 1 rfl
 have H := H.frontM 1 rfl
 refine uKS (vcollect_spec hM hk hl ((H.lend (M1 := [_, _]) (W1 := [])).pick [] rfl)) ?_
 rintro _ _ ⟨d, e, a, b, rfl, H'⟩
 have H := H.back (M1 := [_, _]) (W1 := []) H'
 have H : Hp w S O [_, _] [⟨cidS, 82, .slice d a.length e, a⟩] [] _ := H
 refine uF 1 ?_
 refine uR 1 [.c [2, 0], .c [3]] ?_
 refine qG (sq 0 3) ?_
 refine uP 2 ?_
 obtain rfl : a = [] := by
  have f := b.length_eq
  rw [hp0] at f
  exact List.eq_nil_of_length_eq_zero f
 have H : Hp w S O [_, _] [⟨cidS, 82, .slice d 0 e, ([] : List CID)⟩] [] _ := H
 refine qK .seq (some 10) (sq 3 3) 151 #[.slice d 0 e, .func (.func 99) #[] #[]] (sort_0 (S := fun _ => True)) ?_
 rintro _ _ g rfl
 have H := H.ext g
 refine uF 0 ?_
 refine uR 2 [.c [4]] ?_
 refine qT (.slice d 0 e) Tryz.func97 ?_
 exact ⟨_, rfl, _, _, [], b, rfl, H⟩
theorem vsorted_spec {S : Nat → Prop} {w : World} {O : List Nat} {bx mb c : Nat} {L : VL} (hM : MOk L c) (hk : ∀ x ∈ L, CidOk x.1) (hl : L.length ≤ 1048576) (H0 : Hp w S O [(bx, .cells #[.map (some mb)] 117 (0, 0)), (mb, mapO cidV veV L c)] [] [] w) :
 Calls Tryz.prog 97 #[.func (.func 152) #[] #[.P bx 0], .func (.func 99) #[] #[]] w (Ret fun v w' => ∃ (a' : Option Addr) (c' : Nat) (ids : List CID), ids.Perm (L.map (·.1)) ∧ v = .slice a' ids.length c' ∧ Hp w S O [(bx, .cells #[.map (some mb)] 117 (0, 0)), (mb, mapO cidV veV L c)] [⟨cidS, 82, .slice a' ids.length c', ids⟩] [] w') := by
 rcases Nat.eq_zero_or_pos L.length with h | h
 · exact vsorted_no hM hk hl (List.eq_nil_of_length_eq_zero h) H0
 · exact vsorted_yes hM hk hl h H0
theorem vlist_spec {S : Nat → Prop} {w : World} {O : List Nat} {vb jb db mb c : Nat} {quota count U : Int} {L : VL} (hM : MOk L c) (hk : ∀ x ∈ L, CidOk x.1) (hl : L.length ≤ 1048576) (H0 : Hp w S O [(vb, .cells #[.P jb 0, .P db 0, .map (some mb), .I quota, .I U, .I count] 119 (0, 0)), (mb, mapO cidV veV L c)] [] [] w) :
 Calls Tryz.prog 46 #[.P vb 0] w (Ret fun v w' => ∃ (a' : Option Addr) (c' : Nat) (ids : List CID), ids.Perm (L.map (·.1)) ∧ v = .slice a' ids.length c' ∧ Hp w S O [(vb, .cells #[.P jb 0, .P db 0, .map (some mb), .I quota, .I U, .I count] 119 (0, 0)), (mb, mapO cidV veV L c)] [⟨cidS, 82, .slice a' ids.length c', ids⟩] [] w') := by
 refine uS1 Tryz.func46 ?_
 have H := H0
 refine uR 8 [.c [2, 0], .c [3]] ?_
 refine qG (sq 0 7) ?_
 refine uP 3 ?_
 refine uV 117 2 (H.cells 0 rfl) ?_
 refine uK (vkeys_spec (S := Av S w O (idsOf [(vb, .cells #[.P jb 0, .P db 0, .map (some mb), .I quota, .I U, .I count] 119 (0, 0)), (mb, mapO cidV veV L c)] [])) (some mb)) ?_
 rintro _ _ - ⟨f, rfl, H'⟩
 have H := H.back (M1 := []) (W1 := []) H'
 have H : Hp w S O [(f, .cells #[.map (some mb)] 117 (0, 0)), _, _] [] [] _ := H
 have H := H.frontM 2 rfl
 have H := H.frontM 1 rfl
 refine uKS (vsorted_spec hM hk hl ((H.lend (M1 := [_, _]) (W1 := [])).pick [] rfl)) ?_
 rintro _ _ ⟨d, e, a, b, rfl, H'⟩
 have H := H.back (M1 := [_, _]) (W1 := []) H'
 have H : Hp w S O [_, _, _] [⟨cidS, 82, .slice d a.length e, a⟩] [] _ := H
 refine uF 1 ?_
 refine qT (.slice d a.length e) Tryz.func46 ?_
 have H := H.frontM 1 rfl
 have H := H.frontM 2 rfl
 have H := H.dropM 2
 exact ⟨_, rfl, _, _, _, b, rfl, H⟩
theorem vscrub_spec {S : Nat → Prop} {w : World} {O : List Nat} {vb jb db mb c : Nat} {quota count U : Int} {L : VL} (hM : MOk L c) (hk : ∀ x ∈ L, CidOk x.1) (hl : L.length ≤ 1048576) (hsm : ∀ {id : CID} {c : Chk} {a : Option Addr} {k : Nat}, mfind id L = some ⟨c, a, k⟩ → ChkOk c) (H0 : Hp w S O [(vb, .cells #[.P jb 0, .P db 0, .map (some mb), .I quota, .I U, .I count] 119 (0, 0)), (mb, mapO cidV veV L c)] [] [Fall L] w) :
 Calls Tryz.prog 42 #[.P vb 0] w (Ret fun v w' => ∃ (a' : Option Addr) (c' : Nat) (ids : List CID), ids.Perm (L.map (·.1)) ∧ v = .slice a' (ids.filter (rotL (cont L))).length c' ∧ Hp w S O [(vb, .cells #[.P jb 0, .P db 0, .map (some mb), .I quota, .I U, .I count] 119 (0, 0)), (mb, mapO cidV veV L c)] [⟨cidS, 82, .slice a' ((ids.filter (rotL (cont L))).length) c', (ids.filter (rotL (cont L)))⟩] [] w') := by
 refine uS1 Tryz.func42 ?_
 have H := H0
 refine uR 6 [.c [2, 0, 0], .c [2, 0, 1], .c [3]] ?_
 refine qG (sq 0 4) ?_
 refine uP 1 ?_
 have H := H.frontM 1 rfl
 have H := H.frontM 1 rfl
 refine uKS (vlist_spec hM hk hl ((H.lend (M1 := [_, _]) (W1 := [])).pick [] rfl)) ?_
 rintro _ w1 ⟨a2, c3, ids4, hid5, rfl, H'⟩
 have H := H.back (M1 := [_, _]) (W1 := []) H'
 have H : Hp w S O [_, _] [⟨cidS, 82, .slice a2 ids4.length c3, ids4⟩] [_] _ := H
 refine uF 2 ?_
 refine uR 1 [.c [2, 0, 1, 0], .b 0, .c [3]] ?_
 have H : Hp w S O [_, _] [] [Rp (Shape.slice cidS) [.slice a2 ids4.length c3] ids4, _] _ := H.freezeW 0 rfl
 have H := H.ownNil cidS 82
 have H : Hp w S O [_, _] [⟨cidS, 82, .slice none 0 0, ([] : List CID)⟩] [_, _] _ := H
 have H := H.take 2 1
 refine uL (α := Nat × Option Addr × Nat) (g := 42) (p := [2, 0, 1, 0, 0]) (fun (i, ax, cx) => [(0, .P vb 0), (3, .slice ax (((ids4.take i).filter (rotL (cont L))).length) cx), (7, .slice a2 ids4.length c3), (8, .I ((ids4.length : Nat) : Int)), (9, .I i)]) (fun (i, ax, cx) w' => Hp w S O [(vb, .cells #[.P jb 0, .P db 0, .map (some mb), .I quota, .I U, .I count] 119 (0, 0)), (mb, mapO cidV veV L c)] [⟨cidS, 82, .slice ax (((ids4.take i).filter (rotL (cont L))).length) cx, ((ids4.take i).filter (rotL (cont L)))⟩] [Rp (Shape.slice cidS) [.slice a2 ids4.length c3] ids4, Fall L] w' ∧ i ≤ ids4.length) (fun (i, ax, cx) => ids4.length - i) (0, none, 0) ⟨H, Nat.zero_le _⟩ ?_
 rintro ⟨i, ax, cx⟩ w7 ⟨H, hi⟩ hback6
 have hll9 := hid5.length_eq
 rw [List.length_map] at hll9
 refine uR 3 [.c [2, 0, 1, 0, 0, 1, 0], .c [2, 0, 1, 0, 0, 2], .l [2, 0, 1, 0, 0], .b 0, .c [3]] ?_
 refine qD (((i : Int) : Int) < ((ids4.length : Nat) : Int)) (fun h8 => ?_) (fun h8 => ?_)
 ·
  refine uR 4 [.c [2, 0, 1, 0, 0, 2, 0, 0, 0], .c [2, 0, 1, 0, 0, 2, 0, 0, 1], .b 1, .c [2, 0, 1, 0, 0, 3], .l [2, 0, 1, 0, 0], .b 0, .c [3]] ?_
  refine qG (sq 0 4) ?_
  have hx9 : i < ids4.length := by omega
  refine uX 110 (i : Int) H 0 rfl i (by omega) (List.getElem?_eq_getElem hx9) ?_
  intro b10 o11 es12 hr13 H
  obtain ⟨rfl, hf15, hf16, hf17⟩ := cid_open hr13
  refine uV 82 0 (H.fc 0 rfl) ?_
  refine uC #[.int .u64 0, .I 0, .int .u64 0] 82 H ?_
  intro b18 w19 H
  refine uW 82 0 #[.int .u64 ((ids4[i]).version), .I ((ids4[i]).index), .int .u64 ((ids4[i]).epoch)] H 0 rfl ?_
  intro w20 H
  refine uF 0 ?_
  refine uR 1 [.c [2, 0, 1, 0, 0, 2, 0, 0, 1, 0], .c [2, 0, 1, 0, 0, 2, 0, 0, 2], .b 1, .c [2, 0, 1, 0, 0, 3], .l [2, 0, 1, 0, 0], .b 0, .c [3]] ?_
  refine WK.draw1 8 [(0, .qui), (1, .qui), (2, .qui), (3, .qui), (4, .qui), (5, .qui), (6, .chn), (7, .qui)] [(0, .qui), (1, .qui), (2, .qui), (3, .qui), (4, .qui), (5, .qui), (6, .chn), (7, .qui)] Tryz_mixed (by as_aux_lemma => kernel_rfl) (by as_aux_lemma => kernel_rfl) (by as_aux_lemma => kernel_rfl) ?_
  have H := H.draw
  generalize ({ w20 with drawn := w20.drawn + 1 } : World) = w21 at H ⊢
  refine uP 3 ?_
  refine uV 117 2 (H.cells 1 rfl) ?_
  refine uV 82 0 (H.cells 0 rfl) ?_
  obtain ⟨C9, a9, k9, hf9⟩ := key_find hid5 (show i < ids4.length by omega)
  obtain ⟨⟨⟨hb1, hb2, hb3⟩, hb4, hb5, hb6⟩, hb7⟩ := hsm hf9
  have hrot9 := rotL_some (show mfind (ids4[i]) (cont L) = some C9 by rw [cont_find, hf9]; rfl)
  refine RW.mapGetF (κ := .qui) (d := some 18) (r := [(6, .chn), (7, .qui)]) (T := 117) (mk := cidV) (vk := veV) (Kt := 82) (E := 102) (z := zVE) (ids4[i]) false (some ⟨C9, a9, k9⟩) (v := .agg #[.int .u64 C9.head.id.version, .I C9.head.id.index, .int .u64 C9.head.id.epoch, .I C9.head.kk, .I C9.head.nn, .I C9.head.size, .int .u32 ((C9.head.sum.toNat : Nat) : Int), .slice a9 C9.data.length k9, .bool C9.done_]) (by as_aux_lemma => kernel_rfl) H 2 rfl (cid_key) (by as_aux_lemma => kernel_rfl) (fun w_ => zeroE_run (by as_aux_lemma => kernel_rfl) w_) (hf9) rfl ?_
  have H := H.add (F := Rp SB [.slice a9 C9.data.length k9] C9.data) (Fall.at (H.fact 2 rfl) (hf9))
  refine qK .chn (some 19) [(7, .qui)] 37 #[.agg #[.int .u64 C9.head.id.version, .I C9.head.id.index, .int .u64 C9.head.id.epoch, .I C9.head.kk, .I C9.head.nn, .I C9.head.size, .int .u32 ((C9.head.sum.toNat : Nat) : Int), .slice a9 C9.data.length k9, .bool C9.done_]] (whole_spec (C := C9) (chk_mk (hdr_mk (cid_mk u64a i64a u64a) i64a i64a i64a Shape.bv_mk) (H.rp 0 rfl) Shape.bool_mk)) ?_
  rintro _ w22 hE23 rfl
  have H := H.ext hE23
  refine uF 1 ?_
  refine qN (wholeE C9.head C9.data) 0 (fun h25 => ?_) (fun h25 => ?_)
  ·
   have hw9 := h25
   refine qG (sq 0 5) ?_
   refine uP 1 ?_
   refine uV 82 0 (H.cells 0 rfl) ?_
   refine RW.new (κ := .seq) (d := some 23) (r := (sq 3 5)) (o := .cells #[.int .u64 ((ids4[i]).version), .I ((ids4[i]).index), .int .u64 ((ids4[i]).epoch)] 82 (0, 0)) (v := fun b => .slice (some ⟨b, 0, none⟩) 1 1) (fun b => by as_aux_lemma => kernel_rfl) (nofun) H ?_
   intro b26 w27 H
   have H := H.freeze 0 rfl cidS ([(ids4[i])] : List CID) 1 (by simp [maxLen]) (by first | exact Nat.le_refl _ | simp) (EsP.cons (c := [.int .u64 ((ids4[i]).version), .I ((ids4[i]).index), .int .u64 ((ids4[i]).epoch)]) (cid_mk u64a i64a u64a) EsP.nil)
   have H : Hp w S O [_, _, _] [_] [Rp (Shape.slice cidS) [.slice (some ⟨b26, 0, none⟩) 1 1] ([(ids4[i])] : List CID), _, Fc b10 o11 [.int .u64 ((ids4[i]).version), .I ((ids4[i]).index), .int .u64 ((ids4[i]).epoch)], _, _] _ := H
   refine uA 110 110 24 (((ids4.take i).filter (rotL (cont L))) ++ ([(ids4[i])] : List CID)) H 0 rfl 0 rfl (rfl) (by rw [List.length_append]; have h8 := List.length_filter_le (rotL (cont L)) (ids4.take i); rw [List.length_take] at h8; have h9 := hid5.length_eq; rw [List.length_map] at h9; simp only [List.length_cons, List.length_nil]; omega) ?_
   intro a28 c29 w31 H hc30
   have H : Hp w S O [_, _, _] [⟨cidS, 82, .slice a28 ((((ids4.take i).filter (rotL (cont L))) ++ ([(ids4[i])] : List CID)).length) c29, ((ids4.take i).filter (rotL (cont L))) ++ ([(ids4[i])] : List CID)⟩] [_, _, _, _, _] _ := H
   refine uF 1 ?_
   refine uR 1 [.c [2, 0, 1, 0, 0, 3], .l [2, 0, 1, 0, 0], .b 0, .c [3]] ?_
   refine qG (sq 0 2) ?_
   refine uI ((i : Int) + 1) ?_
   refine uF 1 ?_
   have hst9 : ((ids4.take i).filter (rotL (cont L))) ++ ([(ids4[i])] : List CID) = ((ids4.take (i + 1)).filter (rotL (cont L))) := by rw [filter_step (show i < ids4.length by omega), hrot9, decide_eq_true hw9]; rfl
   rw [hst9] at H
   try rw [hst9]
   have H := H.pick [3, 4] rfl
   have H := H.frontM 2 rfl
   have H := H.frontM 2 rfl
   have H := H.dropM 2
   exact uB (hback6 (i + 1, a28, c29) _ ⟨H, by omega⟩ (by first | omega | (simp only []; omega)))
  ·
   have hw9 := h25
   refine uR 2 [.c [2, 0, 1, 0, 0, 3], .l [2, 0, 1, 0, 0], .b 0, .c [3]] ?_
   refine qG (sq 0 2) ?_
   refine uI ((i : Int) + 1) ?_
   refine qF 1 [(0, .P vb 0), (3, .slice ax (((ids4.take i).filter (rotL (cont L))).length) cx), (7, .slice a2 ids4.length c3), (8, .I ((ids4.length : Nat) : Int)), (9, .I ((i : Int) + 1))] ?_
   have hst9 : ((ids4.take i).filter (rotL (cont L))) = ((ids4.take (i + 1)).filter (rotL (cont L))) := by rw [filter_step (show i < ids4.length by omega), hrot9, decide_eq_false (fun q => q hw9)]; exact (List.append_nil _).symm
   rw [hst9] at H
   try rw [hst9]
   have H := H.pick [2, 3] rfl
   have H := H.frontM 2 (M' := [(mb, mapO cidV veV L c), (b18, .cells #[.int .u64 ((ids4[i]).version), .I ((ids4[i]).index), .int .u64 ((ids4[i]).epoch)] 82 (0, 0)), (vb, .cells #[.P jb 0, .P db 0, .map (some mb), .I quota, .I U, .I count] 119 (0, 0))]) rfl
   have H := H.frontM 2 (M' := [(vb, .cells #[.P jb 0, .P db 0, .map (some mb), .I quota, .I U, .I count] 119 (0, 0)), (mb, mapO cidV veV L c), (b18, .cells #[.int .u64 ((ids4[i]).version), .I ((ids4[i]).index), .int .u64 ((ids4[i]).epoch)] 82 (0, 0))]) rfl
   have H := H.dropM 2
   exact uB (hback6 (i + 1, ax, cx) _ ⟨H, by omega⟩ (by first | omega | (simp only []; omega)))
 ·
  refine uR 3 [.c [4]] ?_
  refine qT (.slice ax (((ids4.take i).filter (rotL (cont L))).length) cx) Tryz.func42 ?_
  have hii : i = ids4.length := by omega
  rw [hii, List.take_length] at H ⊢
  have H := H.pick [] rfl
  exact ⟨_, rfl, _, _, ids4, hid5, rfl, H⟩
end Go.Proofs.YtdnibpclkhenmaaGreatDoor
