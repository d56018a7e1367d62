import Derived.Test.YtppcdmbkgficiaaSBxA
import Derived.Test.YtppcdmbkgficiaaSK8
namespace Go.Proofs.Ytppcdmbkgficiaa
open Go.BX
theorem chosen_bad {S : Nat → Prop} {w : World} {ps : List Pc} {a : Option Addr} {c : Nat} (h : (Shape.slice pcS).rep S w [.slice a ps.length c] ps) {size k n : Nat} (hs : size ≤ 65536) (hk : 1 ≤ k) (hkn : k ≤ n) (hn : n ≤ 255) (hb : ¬ PsOk ps n (lenOf size k)) :
 Calls Try.prog 99 #[.slice a ps.length c, .I size, .I k, .I n] w (Ret fun v w' => Ext w w' ∧ v = .tuple #[.slice none 0 0, .I 0, .I 31]) := by
 have hpl := Shape.slice_len h
 refine uS1 Try.func99 ?_
 have H := Hp.startF (.rp h .nil)
 refine uR 3 [.c [1, 0], .c [2]] ?_
 refine qG (sq 0 9) ?_
 refine uP 3 ?_
 refine uK (sizes_ok (S := fun _ => True) size k n (by omega) (by omega) (by omega) (by omega)) ?_
 rintro _ _ D rfl
 have H := H.ext D
 refine uF 5 ?_
 refine uR 6 [.c [3, 0], .c [4]] ?_
 refine qG (sq 0 2) ?_
 refine RW.new (κ := .seq) (d := some 29) (r := (sq 1 2)) (o := mapO (Value.int .i64) (Value.int .i64) ([] : List (Int × Int × Nat)) 0) (v := fun b_ => .map (some b_)) (fun _ => by as_aux_lemma => kernel_rfl) (nofun) H ?_
 intro t _ H
 refine uF 1 ?_
 refine uR 4 [.c [4, 0, 1, 0], .b 0, .c [5]] ?_
 refine uL (α := Nat × List (Int × Int × Nat) × Nat) (g := 99) (p := [4, 0, 1, 0, 0]) (fun (i, L, cl) => [(0, .slice a ps.length c), (2, .I k), (3, .I n), (11, .I ((lenOf size k : Nat) : Int)), (13, .map (some t)), (30, .slice a ps.length c), (31, .I ((ps.length : Nat) : Int)), (32, .I i)]) (fun (i, L, cl) w' => Hp w S [] [(t, mapO (Value.int .i64) (Value.int .i64) L cl)] [] [Rp (Shape.slice pcS) [.slice a ps.length c] ps] w' ∧ i ≤ ps.length ∧ L.map (·.1) = (ps.take i).map Pc.index ∧ PsOk (ps.take i) n (lenOf size k)) (fun (i, L, cl) => ps.length - i) (0, ([] : List (Int × Int × Nat)), 0) ⟨H, Nat.zero_le _, rfl, psok_nil⟩ ?_
 rintro ⟨i, L, cl⟩ _ ⟨H, e⟩ x
 refine uR 3 [.c [4, 0, 1, 0, 0, 1, 0], .c [4, 0, 1, 0, 0, 2], .l [4, 0, 1, 0, 0], .b 0, .c [5]] ?_
 refine qD (((i : Int) : Int) < ((ps.length : Nat) : Int)) (fun K => ?_) (fun K => ?_)
 ·
  refine uR 4 [.c [4, 0, 1, 0, 0, 2, 0, 0, 0], .c [4, 0, 1, 0, 0, 2, 0, 0, 1], .b 1, .c [4, 0, 1, 0, 0, 3], .l [4, 0, 1, 0, 0], .b 0, .c [5]] ?_
  refine qG (sq 0 4) ?_
  have F : i < ps.length := by omega
  refine uX 70 (i : Int) H 0 rfl i (by omega) (List.getElem?_eq_getElem F) ?_
  intro _ _ _ A H
  obtain ⟨m, s, rfl, _, B⟩ := pc_open A
  have H := H.addR B
  refine uV 72 0 (H.fc 1 rfl) ?_
  refine uC #[.I 0, .slice none 0 0] 72 H ?_
  intro u _ H
  refine uW 72 0 #[.I ((ps[i]).index), .slice m ((ps[i]).data.length) s] H 0 rfl ?_
  intro _ H
  refine uF 0 ?_
  refine uR 2 [.c [4, 0, 1, 0, 0, 2, 0, 0, 1, 0, 0], .c [4, 0, 1, 0, 0, 2, 0, 0, 1, 0, 1], .c [4, 0, 1, 0, 0, 2, 0, 0, 2], .b 1, .c [4, 0, 1, 0, 0, 3], .l [4, 0, 1, 0, 0], .b 0, .c [5]] ?_
  refine qG (sq 0 9) ?_
  refine uP 2 ?_
  refine uV 3 0 (H.cells 0 rfl) ?_
  refine RW.mapGet (κ := .seq) (d := some 40) (r := (sq 4 9)) (T := 200) (mk := (Value.int .i64)) (vk := (Value.int .i64)) (Kt := 3) (E := 3) (z := 0) ((ps[i]).index) true (by as_aux_lemma => kernel_rfl) H 1 rfl (KeyOk.int (by as_aux_lemma => kernel_rfl)) (by as_aux_lemma => kernel_rfl) (fun w_ => zeroE_run (by as_aux_lemma => kernel_rfl) w_) ?_
  refine uF 5 ?_
  refine uR 1 [.c [4, 0, 1, 0, 0, 2, 0, 0, 1, 0, 1, 0], .c [4, 0, 1, 0, 0, 2, 0, 0, 1, 0, 2], .c [4, 0, 1, 0, 0, 2, 0, 0, 2], .b 1, .c [4, 0, 1, 0, 0, 3], .l [4, 0, 1, 0, 0], .b 0, .c [5]] ?_
  refine qG (sq 0 16) ?_
  refine uP 2 ?_
  refine uT 44 ((mfind ((ps[i]).index) L).isSome) (fun y => ?_) (fun y => ?_)
  ·
   refine uF 14 ?_
   refine uR 3 [.c [4, 0, 1, 0, 0, 2, 0, 0, 1, 0, 2, 0, 1], .c [4, 0, 1, 0, 0, 2, 0, 0, 2], .b 1, .c [4, 0, 1, 0, 0, 3], .l [4, 0, 1, 0, 0], .b 0, .c [5]] ?_
   refine qT (.tuple #[.slice none 0 0, .I 0, .I 31]) Try.func99 ?_
   exact ⟨_, rfl, H.done, rfl⟩
  ·
   have hfs : (mfind (ps[i]).index L).isSome = false := by simpa using y
   have hfi : mfind (ps[i]).index L = none := Option.not_isSome_iff_eq_none.1 (by rw [hfs]; exact Bool.false_ne_true)
   have hnm : ¬ (ps[i]).index ∈ (ps.take i).map Pc.index := e.2.1 ▸ mfind_none.1 hfi
   have G : ∀ (j : Nat) (hj : j < i), (ps[j]'(by omega)).index ≠ (ps[i]).index := fun j hj q => hnm (List.mem_map.2 ⟨ps[j], List.mem_iff_getElem.2 ⟨j, by rw [List.length_take]; omega, by rw [List.getElem_take]⟩, q⟩)
   refine qP 1 (sq 3 16) [(0, .slice a ps.length c), (2, .I k), (3, .I n), (11, .I ((lenOf size k : Nat) : Int)), (13, .map (some t)), (15, .P u 0), (30, .slice a ps.length c), (31, .I ((ps.length : Nat) : Int)), (32, .I i), (44, .bool false), (45, .P u 0)] ?_
   refine uV 3 0 (H.cells 0 rfl) ?_
   refine uP 1 ?_
   refine uI ((n : Int) - 1) ?_
   refine uK (between_spec (S := fun _ => True) ((ps[i]).index) 0 ((n : Int) - 1)) ?_
   rintro _ _ C rfl
   have H := H.ext C
   refine uP 3 ?_
   refine uT 52 (!(decide (0 ≤ (ps[i]).index ∧ (ps[i]).index ≤ (n : Int) - 1))) (fun f => ?_) (fun f => ?_)
   ·
    replace f : (decide (0 ≤ (ps[i]).index ∧ (ps[i]).index ≤ (n : Int) - 1)) = false := by revert f; cases (decide (0 ≤ (ps[i]).index ∧ (ps[i]).index ≤ (n : Int) - 1)) <;> simp
    replace f := of_decide_eq_false f
    refine uF 6 ?_
    refine uR 3 [.c [4, 0, 1, 0, 0, 2, 0, 0, 1, 0, 2, 0, 1], .c [4, 0, 1, 0, 0, 2, 0, 0, 2], .b 1, .c [4, 0, 1, 0, 0, 3], .l [4, 0, 1, 0, 0], .b 0, .c [5]] ?_
    refine qT (.tuple #[.slice none 0 0, .I 0, .I 31]) Try.func99 ?_
    exact ⟨_, rfl, H.done, rfl⟩
   ·
    replace f : (decide (0 ≤ (ps[i]).index ∧ (ps[i]).index ≤ (n : Int) - 1)) = true := by revert f; cases (decide (0 ≤ (ps[i]).index ∧ (ps[i]).index ≤ (n : Int) - 1)) <;> simp
    replace f := of_decide_eq_true f
    refine uP 1 ?_
    refine uV 23 1 (H.cells 0 rfl) ?_
    refine uF 4 ?_
    refine qN (((ps[i]).data.length : Nat) : Int) ((lenOf size k : Nat) : Int) (fun J => ?_) (fun J => ?_)
    ·
     refine uR 2 [.c [4, 0, 1, 0, 0, 2, 0, 0, 1, 0, 2, 0, 1], .c [4, 0, 1, 0, 0, 2, 0, 0, 2], .b 1, .c [4, 0, 1, 0, 0, 3], .l [4, 0, 1, 0, 0], .b 0, .c [5]] ?_
     refine qT (.tuple #[.slice none 0 0, .I 0, .I 31]) Try.func99 ?_
     exact ⟨_, rfl, H.done, rfl⟩
    ·
     refine uR 1 [.c [4, 0, 1, 0, 0, 2, 0, 0, 2], .b 1, .c [4, 0, 1, 0, 0, 3], .l [4, 0, 1, 0, 0], .b 0, .c [5]] ?_
     refine qG (sq 0 4) ?_
     refine uP 2 ?_
     refine uV 3 0 (H.cells 0 rfl) ?_
     refine RW.mapSet (d := none) (r := (sq 4 4)) (T := 200) (mk := (Value.int .i64)) (vk := (Value.int .i64)) (Kt := 3) (E := 3) (M' := [(u, .cells #[.I ((ps[i]).index), .slice m ((ps[i]).data.length) s] 72 (0, 0)), (t, mapO (Value.int .i64) (Value.int .i64) (mset ((ps[i]).index) 1 cl L) (mclk ((ps[i]).index) cl L))]) ((ps[i]).index) 1 (by as_aux_lemma => kernel_rfl) H 1 rfl (KeyOk.int (by as_aux_lemma => kernel_rfl)) (by as_aux_lemma => kernel_rfl) rfl ?_
     intro _ _ H
     refine uF 0 ?_
     refine qR 1 [.c [4, 0, 1, 0, 0, 3], .l [4, 0, 1, 0, 0], .b 0, .c [5]] [(0, .slice a ps.length c), (2, .I k), (3, .I n), (11, .I ((lenOf size k : Nat) : Int)), (13, .map (some t)), (30, .slice a ps.length c), (31, .I ((ps.length : Nat) : Int)), (32, .I i)] ?_
     refine qG (sq 0 2) ?_
     refine uI ((i : Int) + 1) ?_
     refine uF 1 ?_
     have H := H.pick [2] rfl
     have H := H.frontM 1 (M' := [(t, mapO (Value.int .i64) (Value.int .i64) (mset ((ps[i]).index) 1 cl L) (mclk ((ps[i]).index) cl L)), (u, .cells #[.I ((ps[i]).index), .slice m ((ps[i]).data.length) s] 72 (0, 0))]) rfl
     have H := H.drop (M' := [(t, mapO (Value.int .i64) (Value.int .i64) (mset ((ps[i]).index) 1 cl L) (mclk ((ps[i]).index) cl L))]) (W' := []) (by repeat (first | exact List.Sublist.refl _ | apply List.Sublist.cons_cons | apply List.Sublist.cons)) (by repeat (first | exact List.Sublist.refl _ | apply List.Sublist.cons_cons | apply List.Sublist.cons))
     exact uB (x (i + 1, mset ((ps[i]).index) 1 cl L, mclk ((ps[i]).index) cl L) _ ⟨H, by omega, by rw [mset_keys, if_neg (by rw [e.2.1]; exact hnm), e.2.1, List.take_succ_eq_append_getElem (by omega), List.map_append]; rfl, psok_snoc e.2.2 (by omega) (by omega) (by omega) G⟩ (by simp only []; omega))
 ·
  exact absurd (by have h9 := e.2.2; rw [List.take_of_length_le (by omega)] at h9; exact h9) hb
theorem whole_two {h : Hdr} {d : List (BitVec 8)} (hb : ¬ (okS h.size h.kk h.nn ∧ 0 ≤ h.id.index ∧ h.id.index < h.nn)) : wholeE h d = 2 := by
 unfold wholeE
 rw [if_pos]
 by_cases hz : ezI h.size h.kk h.nn = 0
 · exact .inr fun q => hb ⟨ez_ok hz, by omega, by omega⟩
 · exact .inl hz
theorem lz_ll {size k n : Int} (h : okS size k n) : lzI size k n = llG size k := (if_pos h).trans (if_pos (show okL4 size k from ⟨h.1, h.2.1, h.2.2.1, by have := h.2.2.2; omega⟩)).symm
theorem r4whole_spec {S : Nat → Prop} {w : World} {C : Chk} {cs : List Value} (hC : chkS.rep S w cs C) :
 Calls Try.prog 44 #[.agg cs.toArray] w (Ret fun v w' => Ext w w' ∧ v = .I (wholeE C.head C.data)) := by
 obtain ⟨_, i, j, rfl, l, m⟩ := chk_open hC
 obtain ⟨_, rfl, e, _, _, _⟩ := hdr_open l
 obtain ⟨rfl, _, _, _⟩ := cid_open e
 refine uS1 Try.func44 ?_
 have H := Hp.startF (.rp m .nil)
 refine uR 1 [.c [0], .c [1]] ?_
 refine qG (sq 0 2) ?_
 refine uC ((chkV C i j).toArray) 92 H ?_
 intro n _ H
 refine uF 1 ?_
 refine uR 1 [.c [1, 0], .c [2]] ?_
 refine qG (sq 0 4) ?_
 refine uP 1 ?_
 refine uV 53 0 (H.cells 0 rfl) ?_
 refine uC #[.int .u64 0, .I 0, .int .u64 0, .I 0, .I 0, .I 0, .int .u32 0] 53 H ?_
 intro o _ H
 refine uW 53 0 (hdrV C.head).toArray H 0 rfl ?_
 intro _ H
 refine uF 0 ?_
 refine uR 1 [.c [2, 0], .c [3]] ?_
 refine qG (sq 0 10) ?_
 refine uP 1 ?_
 refine uV 3 5 (H.cells 0 rfl) ?_
 refine uP 1 ?_
 refine uV 3 3 (H.cells 0 rfl) ?_
 refine uK (lenR_gen (S := fun _ => True) C.head.size C.head.kk) ?_
 rintro _ p r rfl
 have H := H.ext r
 refine uF 5 ?_
 refine uR 2 [.c [3, 0, 0], .c [3, 0, 1], .c [4]] ?_
 refine qG (sq 0 28) ?_
 refine qP 3 (sq 3 28) [(1, .P n 0), (3, .P o 0), (4, .I (llG C.head.size C.head.kk)), (18, .bool ((elG C.head.size C.head.kk) != 0))] ?_
 refine uN 18 (elG C.head.size C.head.kk) 0 (fun B => ?_) (fun B => ?_)
 ·
  refine uF 25 ?_
  refine uR 3 [.c [3, 0, 1, 0, 1], .c [4]] ?_
  refine qT (.I 2) Try.func44 ?_
  refine ⟨_, rfl, H.done, ?_⟩
  congr 1
  symm
  clear H
  exact whole_two fun q => by
   have f := eg_no q.1
   obtain ⟨b, g⟩ := q
   unfold okS at b
   omega
 ·
  refine uP 1 ?_
  refine uV 3 4 (H.cells 0 rfl) ?_
  refine uP 1 ?_
  refine uV 3 3 (H.cells 0 rfl) ?_
  refine uP 3 ?_
  refine uD 25 ((C.head.nn : Int) < C.head.kk) (fun D => ?_) (fun D => ?_)
  ·
   refine uF 18 ?_
   refine uR 3 [.c [3, 0, 1, 0, 1], .c [4]] ?_
   refine qT (.I 2) Try.func44 ?_
   refine ⟨_, rfl, H.done, ?_⟩
   congr 1
   symm
   clear H
   exact whole_two fun q => by
    have f := eg_no q.1
    obtain ⟨b, g⟩ := q
    unfold okS at b
    omega
  ·
   refine uP 1 ?_
   refine uV 3 4 (H.cells 0 rfl) ?_
   refine uP 3 ?_
   refine uD 30 ((C.head.nn : Int) > 255) (fun s => ?_) (fun s => ?_)
   ·
    refine uF 13 ?_
    refine qR 3 [.c [3, 0, 1, 0, 1], .c [4]] [(2, .I 2)] ?_
    refine qT (.I 2) Try.func44 ?_
    refine ⟨_, rfl, H.done, ?_⟩
    congr 1
    symm
    clear H
    exact whole_two fun q => by
     have f := eg_no q.1
     obtain ⟨b, g⟩ := q
     unfold okS at b
     omega
   ·
    refine uP 2 ?_
    refine uV 3 1 (H.cells 0 rfl) ?_
    refine uP 3 ?_
    refine uD 36 ((C.head.id.index : Int) < 0) (fun t => ?_) (fun t => ?_)
    ·
     refine uF 7 ?_
     refine uR 3 [.c [3, 0, 1, 0, 1], .c [4]] ?_
     refine qT (.I 2) Try.func44 ?_
     refine ⟨_, rfl, H.done, ?_⟩
     congr 1
     symm
     clear H
     exact whole_two fun q => by
      have f := eg_no q.1
      obtain ⟨b, g⟩ := q
      unfold okS at b
      omega
    ·
     refine uP 2 ?_
     refine uV 3 1 (H.cells 0 rfl) ?_
     refine uP 1 ?_
     refine uV 3 4 (H.cells 0 rfl) ?_
     refine uF 2 ?_
     refine qD ((C.head.id.index : Int) ≥ C.head.nn) (fun u => ?_) (fun u => ?_)
     ·
      refine uR 2 [.c [3, 0, 1, 0, 1], .c [4]] ?_
      refine qT (.I 2) Try.func44 ?_
      refine ⟨_, rfl, H.done, ?_⟩
      congr 1
      symm
      clear H
      exact whole_two fun q => by
       have f := eg_no q.1
       obtain ⟨b, g⟩ := q
       unfold okS at b
       omega
     ·
      refine uR 3 [.c [4, 0, 0], .c [4, 0, 1], .c [5]] ?_
      refine qG (sq 0 5) ?_
      refine uP 1 ?_
      refine uV 23 7 (H.cells 1 rfl) ?_
      refine qF 3 [(1, .P n 0), (3, .P o 0), (48, .bool (((C.data.length : Nat) : Int) != (llG C.head.size C.head.kk)))] ?_
      refine qN ((C.data.length : Nat) : Int) (llG C.head.size C.head.kk) (fun x => ?_) (fun x => ?_)
      ·
       refine uR 2 [.c [4, 0, 1, 0, 1], .c [5]] ?_
       refine qT (.I 31) Try.func44 ?_
       refine ⟨_, rfl, H.done, ?_⟩
       congr 1
       symm
       clear H
       have a := eg_ok (size := C.head.size) (k := C.head.kk) (by omega)
       have d : okS C.head.size C.head.kk C.head.nn := ⟨a.1, a.2.1, a.2.2.1, by omega, by omega⟩
       have y := ez_yes d
       have z := lz_ll d
       unfold wholeE
       rw [if_neg (by omega), if_pos (by omega)]
      ·
       refine uR 3 [.c [5, 0, 0], .c [5, 0, 1], .c [6]] ?_
       refine WK.draw1 6 [(0, .qui), (1, .qui), (3, .qui), (4, .qui), (2, .chn), (5, .qui)] [(0, .qui), (1, .qui), (3, .qui), (4, .qui), (2, .chn), (5, .qui)] Try_mixed (by as_aux_lemma => kernel_rfl) (by as_aux_lemma => kernel_rfl) (by as_aux_lemma => kernel_rfl) ?_
       have H := H.draw
       generalize ({ p with drawn := p.drawn + 1 } : World) = E at H ⊢
       refine uP 1 ?_
       refine uV 23 7 (H.cells 1 rfl) ?_
       refine uP 1 ?_
       refine uV 51 6 (H.cells 0 rfl) ?_
       refine uK (r3crc_spec (H.rp 0 rfl)) ?_
       rintro _ _ h rfl
       have H := H.ext h
       refine uF 1 ?_
       refine qN (((crcF C.data).toNat : Nat) : Int) ((C.head.sum.toNat : Nat) : Int) (fun A => ?_) (fun A => ?_)
       ·
        refine uR 2 [.c [5, 0, 1, 0, 1], .c [6]] ?_
        refine qT (.I 92) Try.func44 ?_
        refine ⟨_, rfl, H.done, ?_⟩
        congr 1
        symm
        clear H
        have a := eg_ok (size := C.head.size) (k := C.head.kk) (by omega)
        have d : okS C.head.size C.head.kk C.head.nn := ⟨a.1, a.2.1, a.2.2.1, by omega, by omega⟩
        have y := ez_yes d
        have z := lz_ll d
        unfold wholeE
        rw [if_neg (by omega), if_neg (by omega), if_pos (by omega)]
       ·
        refine uR 3 [.c [7]] ?_
        refine qT (.I 0) Try.func44 ?_
        refine ⟨_, rfl, H.done, ?_⟩
        congr 1
        symm
        clear H
        have a := eg_ok (size := C.head.size) (k := C.head.kk) (by omega)
        have d : okS C.head.size C.head.kk C.head.nn := ⟨a.1, a.2.1, a.2.2.1, by omega, by omega⟩
        have y := ez_yes d
        have z := lz_ll d
        unfold wholeE
        rw [if_neg (by omega), if_neg (by omega), if_neg (by omega)]
end Go.Proofs.Ytppcdmbkgficiaa
