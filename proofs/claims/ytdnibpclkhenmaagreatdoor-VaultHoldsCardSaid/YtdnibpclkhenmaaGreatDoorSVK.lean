import Derived.Test.YtdnibpclkhenmaaGreatDoorSBxA
import Derived.Test.YtdnibpclkhenmaaGreatDoorSVG
namespace Go.Proofs.YtdnibpclkhenmaaGreatDoor
open Go.BX
theorem hdr_ok {S : Nat → Prop} {w : World} {cs : List Value} {x : Chk} (h : chkS.rep S w cs x) : HdrOk x.head := by
 obtain ⟨_, _, _, -, a, -⟩ := chk_open h
 obtain ⟨_, -, b, c, d, e⟩ := hdr_open a
 exact ⟨(cid_open b).2, c, d, e⟩
theorem rows_hdr {S : Nat → Prop} {w : World} {l : List Chk} {a : Option Addr} {c : Nat} (h : (Shape.slice chkS).rep S w [.slice a l.length c] l) : ∀ i, (hi : i < l.length) → HdrOk l[i].head := fun i hi => by
 obtain ⟨-, -, -, hE⟩ := Shape.elems_of h
 obtain ⟨b, o, es, -, -, -, hr⟩ := hE i l[i] (List.getElem?_eq_getElem hi)
 exact hdr_ok hr
theorem whole91 {h : Hdr} {x : List (BitVec 8)} : wholeE h x ≠ 91 := by
 unfold wholeE
 split
 · decide
 · split
   · decide
   · split <;> decide
def HoldI (s : VS) (quota : Int) : Prop := (∀ id c, mfind id s.1 = some c → wholeE c.head c.data = 0 ∧ c.done_ = true) ∧ (usedL s.1 : Int) ≤ quota
theorem HoldI.nil {quota : Int} (h : 0 ≤ quota) : HoldI (runD []) quota := ⟨fun id c hf => (by cases hf), (by show ((0 : Nat) : Int) ≤ quota; omega)⟩
theorem prep_find (ds : List Deed) (c : Chk) : mfind c.head.id (runD (ds ++ [.prep c])).1 = some c := by
 rw [runD_snoc]
 show mfind c.head.id (mset c.head.id c (runD ds).2 (runD ds).1) = _
 rw [mfind_set, if_pos rfl]
theorem hold_new {ds : List Deed} {c : Chk} {quota : Int} (h : HoldI (runD ds) quota) (hw : wholeE c.head c.data = 0) (hf : mfind c.head.id (runD ds).1 = none) (hq : (usedL (runD ds).1 : Int) + ((c.data.length : Nat) : Int) ≤ quota) :
 HoldI (runD ((ds ++ [.prep c]) ++ [.settle c.head.id])) quota := by
 have a : (runD (ds ++ [.prep c])).1 = mset c.head.id c (runD ds).2 (runD ds).1 := by rw [runD_snoc]; rfl
 have e : (runD ((ds ++ [.prep c]) ++ [.settle c.head.id])).1 = mset c.head.id { c with done_ := true } (runD (ds ++ [.prep c])).2 (runD (ds ++ [.prep c])).1 := by
  rw [runD_snoc (ds ++ [Deed.prep c]) (Deed.settle c.head.id)]
  show (match mfind c.head.id (runD (ds ++ [Deed.prep c])).1 with | some c' => (mset c.head.id { c' with done_ := true } (runD (ds ++ [Deed.prep c])).2 (runD (ds ++ [Deed.prep c])).1, mclk c.head.id (runD (ds ++ [Deed.prep c])).2 (runD (ds ++ [Deed.prep c])).1) | none => runD (ds ++ [Deed.prep c])).1 = _
  rw [prep_find]
 refine ⟨fun id c' hf' => ?_, ?_⟩
 · rw [e, mfind_set] at hf'
   split at hf'
   · cases hf'; exact ⟨hw, rfl⟩
   · rename_i hne
     rw [a, mfind_set, if_neg hne] at hf'
     exact h.1 id c' hf'
 · rw [e, used_old (v := { c with done_ := true }) (prep_find ds c) rfl, a, used_new hf]
   push_cast
   exact hq
theorem prep_cases (s : VS) (C : Chk) (quota : Int) : wholeE C.head C.data ≠ 0 ∨ (wholeE C.head C.data = 0 ∧ ∃ C0, mfind C.head.id s.1 = some C0 ∧ (C0.head = C.head ∧ C0.data = C.data)) ∨ (wholeE C.head C.data = 0 ∧ ∃ C0, mfind C.head.id s.1 = some C0 ∧ ¬ (C0.head = C.head ∧ C0.data = C.data)) ∨
 (wholeE C.head C.data = 0 ∧ mfind C.head.id s.1 = none ∧ quota < (usedL s.1 : Int) + ((C.data.length : Nat) : Int)) ∨ (wholeE C.head C.data = 0 ∧ mfind C.head.id s.1 = none ∧ (usedL s.1 : Int) + ((C.data.length : Nat) : Int) ≤ quota) := by
 by_cases hw : wholeE C.head C.data = 0
 · cases hf : mfind C.head.id s.1 with
   | none =>
    by_cases hq : (usedL s.1 : Int) + ((C.data.length : Nat) : Int) ≤ quota
    · exact .inr (.inr (.inr (.inr ⟨hw, rfl, hq⟩)))
    · exact .inr (.inr (.inr (.inl ⟨hw, rfl, by omega⟩)))
   | some C0 =>
    by_cases he : C0.head = C.head ∧ C0.data = C.data
    · exact .inr (.inl ⟨hw, C0, rfl, he⟩)
    · exact .inr (.inr (.inl ⟨hw, C0, rfl, he⟩))
 · exact .inl hw
def lenAt (s : VC) (id : CID) : Nat := ((mfind id s).map fun c => c.data.length).getD 0
theorem lenAt_some {s : VC} {id : CID} {c : Chk} (h : mfind id s = some c) : lenAt s id = c.data.length := by unfold lenAt; rw [h]; rfl
theorem mfind_self : ∀ {L : VC}, (L.map (·.1)).Nodup → ∀ e ∈ L, mfind e.1 L = some e.2.1
 | [], _, e, he => by cases he
 | y :: l, hn, e, he => by
  obtain ⟨h1, h2⟩ := List.nodup_cons.1 hn
  simp only [mfind]
  rcases List.mem_cons.1 he with rfl | he
  · exact if_pos rfl
  · rw [if_neg (fun q => h1 (by show y.1 ∈ _; rw [q]; exact List.mem_map.2 ⟨e, he, rfl⟩))]
    exact mfind_self h2 e he
theorem lens_used {s : VS} (h : MOk s.1 s.2) {ids : List CID} (hp : ids.Perm (s.1.map (·.1))) : (ids.map (lenAt s.1)).sum = usedL s.1 := by
 rw [(hp.map (lenAt s.1)).sum_nat, List.map_map]
 unfold usedL
 congr 1
 refine List.map_congr_left fun e he => ?_
 show lenAt s.1 e.1 = _
 exact lenAt_some (mfind_self h.keys e he)
def sumI (s : VC) (ids : List CID) (i : Nat) : Nat := ((ids.take i).map (lenAt s)).sum
theorem sumI_step {s : VC} {ids : List CID} {i : Nat} (hi : i < ids.length) : sumI s ids (i + 1) = sumI s ids i + lenAt s ids[i] := by
 unfold sumI
 rw [List.take_succ_eq_append_getElem hi, List.map_append, List.sum_append]
 rfl
theorem sumI_all {s : VS} (h : MOk s.1 s.2) {ids : List CID} (hp : ids.Perm (s.1.map (·.1))) : sumI s.1 ids ids.length = usedL s.1 := by
 unfold sumI
 rw [List.take_length, lens_used h hp]
theorem ids_perm {L : VL} {s : VC} {ids : List CID} (hL : cont L = s) (hp : ids.Perm (L.map (·.1))) : ids.Perm (s.map (·.1)) := by
 subst hL
 rw [cont_keys]
 exact hp
theorem ids_find {s : VC} {ids : List CID} (hp : ids.Perm (s.map (·.1))) {i : Nat} (hi : i < ids.length) : ∃ c, mfind ids[i] s = some c := by
 cases h : mfind ids[i] s with
 | none => exact absurd (hp.mem_iff.1 (List.getElem_mem hi)) (mfind_none.1 h)
 | some c => exact ⟨c, rfl⟩
theorem prep_enc {c : Chk} (h : ChkOk c) : (encD (.prep c)).length ≤ c.data.length + 120 := by
 have a := hdrE_len h.1
 have b := @num_ten c.data.length (by have := h.2; omega)
 have d := @num_ten 0 (by decide)
 show (num 0 ++ (hdrE c.head ++ ((num c.data.length ++ c.data) ++ flagE c.done_))).length ≤ _
 simp only [List.length_append, flagE_len]
 omega
theorem settle_enc {id : CID} (h : CidOk id) : (encD (.settle id)).length ≤ 100 := by
 have a := hdrE_len (hdr0_ok h)
 have b := @num_ten 1 (by decide)
 show (num 1 ++ _).length ≤ _
 rw [List.length_append]
 omega
theorem holds_no {S : Nat → Prop} {w : World} {l : List Chk} {al : Option Addr} {cl : Nat} (x1 : Int) (hno : x1 < 0 ∨ 100000 < x1 ∨ 60 < l.length) (hr : (Rp (Shape.slice chkS) [.slice al l.length cl] l).p S w) (hq : (Fz jQ).p S w) :
 Calls Tryz.prog 10 #[.I x1, .slice al l.length cl] w (Ret fun v w' => Ext w w' ∧ v = .bool true) := by
 refine uS1 Tryz.func10 ?_
 have H := Hp.startF (w := w) (S := S) (G := [Rp (Shape.slice chkS) [.slice al l.length cl] l, Fz jQ]) (.rp hr (.cons hq .nil))
 refine uR 4 [.c [1, 0, 0], .c [1, 0, 1], .c [2]] ?_
 refine qG (sq 0 11) ?_
 refine uP 3 ?_
 refine uD 20 ((x1 : Int) < 0) (fun e => ?_) (fun e => ?_)
 ·
  refine uF 8 ?_
  refine uR 2 [.c [1, 0, 1, 0, 0], .c [1, 0, 1, 0, 1], .c [2]] ?_
  refine qG (sq 0 2) ?_
  refine uK (heads9_spec (S := fun _ => True) (H.viewF 1 rfl)) ?_
  rintro _ _ a rfl
  have H := H.ext a
  refine uF 1 ?_
  refine qT (.bool true) Tryz.func10 ?_
  exact ⟨_, rfl, H.done, rfl⟩
 ·
  refine uP 4 ?_
  refine uD 24 ((x1 : Int) > 100000) (fun f => ?_) (fun f => ?_)
  ·
   refine uF 4 ?_
   refine uR 2 [.c [1, 0, 1, 0, 0], .c [1, 0, 1, 0, 1], .c [2]] ?_
   refine qG (sq 0 2) ?_
   refine uK (heads9_spec (S := fun _ => True) (H.viewF 1 rfl)) ?_
   rintro _ _ b rfl
   have H := H.ext b
   refine uF 1 ?_
   refine qT (.bool true) Tryz.func10 ?_
   exact ⟨_, rfl, H.done, rfl⟩
  ·
   refine uF 4 ?_
   refine qD ((((l.length : Nat) : Int) : Int) > 60) (fun g => ?_) (fun g => ?_)
   ·
    refine qR 1 [.c [1, 0, 1, 0, 0], .c [1, 0, 1, 0, 1], .c [2]] [] ?_
    refine qG (sq 0 2) ?_
    refine uK (heads9_spec (S := fun _ => True) (H.viewF 1 rfl)) ?_
    rintro _ _ d rfl
    have H := H.ext d
    refine uF 1 ?_
    refine qT (.bool true) Tryz.func10 ?_
    exact ⟨_, rfl, H.done, rfl⟩
   ·
    omega
set_option maxHeartbeats 8000000 in
theorem holds_yes {S : Nat → Prop} {w : World} {l : List Chk} {al : Option Addr} {cl : Nat} (x1 : Int) (hx : 0 ≤ x1) (hx2 : x1 ≤ 100000) (hl : l.length ≤ 60) (hr : (Rp (Shape.slice chkS) [.slice al l.length cl] l).p S w) (hq : (Fz jQ).p S w) :
 Calls Tryz.prog 10 #[.I x1, .slice al l.length cl] w (Ret fun v w' => Ext w w' ∧ v = .bool true) := by
 have hal := Shape.slice_len hr
 have hCs := rows_hdr hr
 refine uS1 Tryz.func10 ?_
 have H := Hp.startF (w := w) (S := S) (G := [Rp (Shape.slice chkS) [.slice al l.length cl] l, Fz jQ]) (.rp hr (.cons hq .nil))
 refine uR 4 [.c [1, 0, 0], .c [1, 0, 1], .c [2]] ?_
 refine qG (sq 0 11) ?_
 refine uP 3 ?_
 refine uD 20 ((x1 : Int) < 0) (fun h1 => ?_) (fun h1 => ?_)
 ·
  refine uF 8 ?_
  refine uR 2 [.c [1, 0, 1, 0, 0], .c [1, 0, 1, 0, 1], .c [2]] ?_
  refine qG (sq 0 2) ?_
  refine uK (heads9_spec (S := fun _ => True) (H.viewF 1 rfl)) ?_
  rintro _ _ A2 rfl
  have H := H.ext A2
  refine uF 1 ?_
  refine qT (.bool true) Tryz.func10 ?_
  exact ⟨_, rfl, H.done, rfl⟩
 ·
  refine uP 4 ?_
  refine uD 24 ((x1 : Int) > 100000) (fun h4 => ?_) (fun h4 => ?_)
  ·
   refine uF 4 ?_
   refine uR 2 [.c [1, 0, 1, 0, 0], .c [1, 0, 1, 0, 1], .c [2]] ?_
   refine qG (sq 0 2) ?_
   refine uK (heads9_spec (S := fun _ => True) (H.viewF 1 rfl)) ?_
   rintro _ _ B2 rfl
   have H := H.ext B2
   refine uF 1 ?_
   refine qT (.bool true) Tryz.func10 ?_
   exact ⟨_, rfl, H.done, rfl⟩
  ·
   refine uF 4 ?_
   refine qD ((((l.length : Nat) : Int) : Int) > 60) (fun h7 => ?_) (fun h7 => ?_)
   ·
    omega
   ·
    refine qR 2 [.c [2, 0], .c [3]] [(0, .I x1), (1, .slice al l.length cl)] ?_
    refine qG (sq 0 2) ?_
    refine uK (new_spec (S := Av S w [] (idsOf [] []))) ?_
    rintro _ _ - ⟨e, T, U, rfl, H'⟩
    have H := H.back (M1 := []) (W1 := []) H'
    have H := H.ung 0
    have H : Hp w S [] ((diskM e (newD T U) none 0)) [⟨stepS, 143, .slice none ((newD T U).steps.length) 0, (newD T U).steps⟩] [_, _] _ := H
    have C2 : DOk (newD T U) := newD_ok T U
    refine uF 1 ?_
    refine uR 1 [.c [3, 0], .c [4]] ?_
    refine qG (sq 0 8) ?_
    refine uP 2 ?_
    have k0 := newD_CW T U (⟨#[118]⟩ : ByteArray)
    have L1 : (newD T U).armed = false := rfl
    have H := H.gat 0 0
    refine uKS (vopen_spec (n := 100000000) (m := 0) (q := 0) (c := 0) (ds := ([] : List Deed)) plainV k0.di (k0.al.mono (by omega)) L1 (newD_op T U _) k0.cap (by omega) (fun B R h => h) allD_nil (Nat.zero_le _) (Nat.zero_le _) (by omega) ⟨by omega, by omega⟩ ((H.lend (M1 := (diskM _ _ _ _)) (W1 := [_])).pick [1] rfl)) ?_
    rintro _ _ ⟨f, o, r, H1, l0, m0, n0, o0, y0, p0, q0, K0, rfl, N1, Z0, O1, H'⟩
    have H := H.back (M1 := (diskM _ _ _ _)) (W1 := [_]) H'
    have H := H.ung 3
    have H : Hp w S [] ((f, .cells #[.P o 0, .P e 0, .map (some r), .I x1, .I (usedL (runD ([] : List Deed)).1 : Int), .I (([] : List Deed).length : Int)] 119 (0, 0)) :: (r, mapO cidV veV K0 ((runD ([] : List Deed)).2)) :: (o, .cells #[.P e 0, .string (⟨#[118]⟩ : ByteArray), .slice l0 (([] : List (BitVec 8)).length) m0, .slice n0 ((([] : List Deed).map encD).length) o0, .I H1, .string (⟨#[]⟩ : ByteArray), .slice none (([] : List (BitVec 8)).length) 0, .bool true] 41 (0, 0)) :: (diskM e y0 p0 q0)) [⟨SB, 23, .slice n0 ((([] : List Deed).map encD).length) o0, (([] : List Deed).map encD)⟩, ⟨stepS, 143, .slice p0 y0.steps.length q0, y0.steps⟩] [Rp SB [.slice l0 (([] : List (BitVec 8)).length) m0] ([] : List (BitVec 8)), Rp SB [.slice none (([] : List (BitVec 8)).length) 0] ([] : List (BitVec 8)), Fall K0, _, _] _ := H
    refine uF 5 ?_
    refine uR 9 [.c [5, 0, 1, 0], .b 0, .c [6]] ?_
    have H := H.pick [3, 4, 0, 1, 2] rfl
    refine uL (α := Nat × List Deed × VL × DiskD × Option Addr × Nat × Nat × ByteArray × List (BitVec 8) × Option Addr × Nat × Option Addr × Nat × Option Addr × Nat) (g := 10) (p := [5, 0, 1, 0, 0]) (fun (i, ds, L, D, sa, sk, g, seg, σ, ab, cb, ar, cr, aσ, cσ) => [(0, .I x1), (1, .slice al l.length cl), (5, .P e 0), (6, .P f 0), (8, .I i)]) (fun (i, ds, L, D, sa, sk, g, seg, σ, ab, cb, ar, cr, aσ, cσ) w' => Hp w S [] ((f, .cells #[.P o 0, .P e 0, .map (some r), .I x1, .I (usedL (runD ds).1 : Int), .I (ds.length : Int)] 119 (0, 0)) :: (r, mapO cidV veV L ((runD ds).2)) :: (o, .cells #[.P e 0, .string (⟨#[118]⟩ : ByteArray), .slice ab (([] : List (BitVec 8)).length) cb, .slice ar (ds.map encD).length cr, .I g, .string seg, .slice aσ σ.length cσ, .bool true] 41 (0, 0)) :: (diskM e D sa sk)) [⟨SB, 23, .slice ar (ds.map encD).length cr, (ds.map encD)⟩, ⟨stepS, 143, .slice sa D.steps.length sk, D.steps⟩] [Rp (Shape.slice chkS) [.slice al l.length cl] l, Fz jQ, Rp SB [.slice ab (([] : List (BitVec 8)).length) cb] ([] : List (BitVec 8)), Rp SB [.slice aσ σ.length cσ] σ, Fall L] w' ∧ i ≤ l.length ∧ JW D (⟨#[118]⟩ : ByteArray) [] (ds.map encD) (ds.map encD) g seg σ true (100000000 - 1200000 * i) (1 + 4 * i) (3000 * i) 0 (1 + 4 * i) ∧ D.armed = false ∧ cont L = (runD ds).1 ∧ allD ds ∧ ds.length ≤ 2 * i ∧ HoldI (runD ds) x1) (fun (i, ds, L, D, sa, sk, g, seg, σ, ab, cb, ar, cr, aσ, cσ) => l.length - i) (0, ([] : List Deed), K0, y0, p0, q0, H1, (⟨#[]⟩ : ByteArray), ([] : List (BitVec 8)), l0, m0, n0, o0, none, 0) ⟨H, Nat.zero_le _, N1.mono (by omega) (by omega) (by omega) (Nat.le_refl _) (by omega), Z0, O1, allD_nil, Nat.le_refl _, HoldI.nil (by omega)⟩ ?_
    rintro ⟨i, ds, L, D, sa, sk, g, seg, σ, ab, cb, ar, cr, aσ, cσ⟩ _ ⟨H, ⟨hi, hW, hna, hL, hall, hds, hI⟩⟩ s
    have hIq := hI.2
    refine uR 3 [.c [5, 0, 1, 0, 0, 0, 1], .c [5, 0, 1, 0, 0, 1], .l [5, 0, 1, 0, 0], .b 0, .c [6]] ?_
    refine qD (((i : Int) : Int) < ((l.length : Nat) : Int)) (fun D2 => ?_) (fun D2 => ?_)
    ·
     refine uR 5 [.c [5, 0, 1, 0, 0, 1, 0, 0, 0, 0], .c [5, 0, 1, 0, 0, 1, 0, 0, 0, 1], .c [5, 0, 1, 0, 0, 1, 0, 0, 1], .b 1, .c [5, 0, 1, 0, 0, 2], .l [5, 0, 1, 0, 0], .b 0, .c [6]] ?_
     refine qG (sq 0 7) ?_
     refine uP 2 ?_
     have P1 : i < l.length := by omega
     refine uX 114 (i : Int) H 0 rfl i (by omega) (List.getElem?_eq_getElem P1) ?_
     intro E2 F2 _ Q1 H
     obtain ⟨_, a1, b1, rfl, R1, S1⟩ := chk_open Q1
     obtain ⟨_, rfl, T1, _, _, _⟩ := hdr_open R1
     obtain ⟨rfl, _, _, _⟩ := cid_open T1
     have H := H.addR S1
     refine uP 1 ?_
     refine uV 23 7 (H.fc 1 rfl) ?_
     refine uF 2 ?_
     refine qD (((((l[i]).data.length : Nat) : Int) : Int) > 2000) (fun G2 => ?_) (fun G2 => ?_)
     ·
      refine uR 1 [.c [5, 0, 1, 0, 0, 1, 0, 0, 0, 1, 0, 0], .c [5, 0, 1, 0, 0, 1, 0, 0, 0, 1, 0, 1], .c [5, 0, 1, 0, 0, 1, 0, 0, 1], .b 1, .c [5, 0, 1, 0, 0, 2], .l [5, 0, 1, 0, 0], .b 0, .c [6]] ?_
      refine qG (sq 0 2) ?_
      refine uK (heads9_spec (S := fun _ => True) (H.viewF 3 rfl)) ?_
      rintro _ _ U1 rfl
      have H := H.ext U1
      refine uF 1 ?_
      refine qT (.bool true) Tryz.func10 ?_
      exact ⟨_, rfl, H.done, rfl⟩
     ·
      refine uR 2 [.c [5, 0, 1, 0, 0, 1, 0, 0, 1, 0], .c [5, 0, 1, 0, 0, 1, 0, 0, 2], .b 1, .c [5, 0, 1, 0, 0, 2], .l [5, 0, 1, 0, 0], .b 0, .c [6]] ?_
      refine qG (sq 0 3) ?_
      refine uP 1 ?_
      refine uK (vused_spec (S := fun _ => True) (O := []) (H.viewM 0 rfl (by simp))) ?_
      rintro _ _ V1 rfl
      have H := H.ext V1
      refine uF 1 ?_
      refine qR 1 [.c [5, 0, 1, 0, 0, 1, 0, 0, 2, 0], .c [5, 0, 1, 0, 0, 1, 0, 0, 3], .b 1, .c [5, 0, 1, 0, 0, 2], .l [5, 0, 1, 0, 0], .b 0, .c [6]] [(0, .I x1), (1, .slice al l.length cl), (5, .P e 0), (6, .P f 0), (8, .I i), (9, .I (usedL (runD ds).1 : Int))] ?_
      refine qG (sq 0 7) ?_
      refine uP 3 ?_
      have X1 : i < l.length := by omega
      refine uX 114 (i : Int) H 2 rfl i (by omega) (List.getElem?_eq_getElem X1) ?_
      intro H2 I2 _ Y1 H
      obtain ⟨_, c1, d1, rfl, Z1, a2⟩ := chk_open Y1
      obtain ⟨_, rfl, b2, _, _, _⟩ := hdr_open Z1
      obtain ⟨rfl, _, _, _⟩ := cid_open b2
      have H := H.addR a2
      refine uV 102 0 (H.fc 1 rfl) ?_
      rcases prep_cases (runD ds) (l[i]) x1 with hA | ⟨z, C0, t, L0⟩ | ⟨z, C0, t, L0⟩ | ⟨z, t, z0⟩ | ⟨z, t, z0⟩
      ·
       have H := H.frontM 2 rfl
       have H := H.frontM 2 rfl
       have H := H.frontM 2 rfl
       have H := H.frontW 1 rfl
       have H := H.frontW 1 rfl
       have H := H.gat 3 0
       refine uKS (vprep_bad (ds := ds) hW hna hL hall (C := (l[i])) (hCs i (by omega)) hA ((H.lend (M1 := (_ :: _ :: _ :: (diskM _ _ _ _))) (W1 := [_, _])).pick [6, 7, 8, 5, 0] rfl)) ?_
       rintro _ A0 ⟨rfl, H'⟩
       have H := H.back (M1 := (_ :: _ :: _ :: (diskM _ _ _ _))) (W1 := [_, _]) H'
       have H := H.ung 3
       have H : Hp w S [] (_ :: _ :: _ :: _) [_, _] [_, Fc H2 I2 [.int .u64 ((((l[i]).head).id).version), .I ((((l[i]).head).id).index), .int .u64 ((((l[i]).head).id).epoch), .I (((l[i]).head).kk), .I (((l[i]).head).nn), .I (((l[i]).head).size), .int .u32 (((((l[i]).head).sum).toNat : Nat) : Int), .slice c1 ((l[i]).data.length) d1, .bool ((l[i]).done_)], _, Fc E2 F2 [.int .u64 ((((l[i]).head).id).version), .I ((((l[i]).head).id).index), .int .u64 ((((l[i]).head).id).epoch), .I (((l[i]).head).kk), .I (((l[i]).head).nn), .I (((l[i]).head).size), .int .u32 (((((l[i]).head).sum).toNat : Nat) : Int), .slice a1 ((l[i]).data.length) b1, .bool ((l[i]).done_)], _, _, _, _, _] _ := H
       refine uF 1 ?_
       refine uR 2 [.c [5, 0, 1, 0, 0, 1, 0, 0, 3, 0, 0], .c [5, 0, 1, 0, 0, 1, 0, 0, 3, 0, 1], .c [5, 0, 1, 0, 0, 1, 0, 0, 4], .b 1, .c [5, 0, 1, 0, 0, 2], .l [5, 0, 1, 0, 0], .b 0, .c [6]] ?_
       refine qG (sq 0 29) ?_
       refine uP 3 ?_
       refine uE 67 (wholeE (l[i]).head (l[i]).data) 0 (fun I1 => ?_) (fun I1 => ?_)
       ·
        exact absurd I1 hA
       ·
        refine uP 12 ?_
        refine uK (vused_spec (S := fun _ => True) (O := []) (H.viewM 0 rfl (by simp))) ?_
        rintro _ _ c2 rfl
        have H := H.ext c2
        refine uP 4 ?_
        refine uD 84 (((usedL (runD ds).1 : Int) : Int) > x1) (fun J2 => ?_) (fun J2 => ?_)
        ·
         omega
        ·
         refine qP 3 (sq 23 29) [(0, .I x1), (1, .slice al l.length cl), (5, .P e 0), (6, .P f 0), (8, .I i), (9, .I (usedL (runD ds).1 : Int)), (10, .I (wholeE (l[i]).head (l[i]).data)), (84, .bool false), (87, .bool ((wholeE (l[i]).head (l[i]).data) != 0))] ?_
         refine Go.BX.tN (fun b_ => [(0, .I x1), (1, .slice al l.length cl), (5, .P e 0), (6, .P f 0), (8, .I i), (9, .I (usedL (runD ds).1 : Int)), (10, .I (wholeE (l[i]).head (l[i]).data)), (84, .bool false), (87, .bool b_)]) (wholeE (l[i]).head (l[i]).data) 0 (fun J1 => ?_) (fun J1 => ?_)
         ·
          refine uP 1 ?_
          refine uK (vused_spec (S := fun _ => True) (O := []) (H.viewM 0 rfl (by simp))) ?_
          rintro _ _ d2 rfl
          have H := H.ext d2
          refine uF 4 ?_
          refine qN (usedL (runD ds).1 : Int) (usedL (runD ds).1 : Int) (fun K2 => ?_) (fun K2 => ?_)
          ·
           omega
          ·
           refine uR 2 [.c [5, 0, 1, 0, 0, 1, 0, 0, 4, 0], .c [5, 0, 1, 0, 0, 1, 0, 0, 5], .b 1, .c [5, 0, 1, 0, 0, 2], .l [5, 0, 1, 0, 0], .b 0, .c [6]] ?_
           refine qG (sq 0 14) ?_
           refine uP 3 ?_
           refine uE 96 (wholeE (l[i]).head (l[i]).data) 91 (fun K1 => ?_) (fun K1 => ?_)
           ·
            exact absurd K1 whole91
           ·
            refine uF 11 ?_
            refine uR 3 [.c [5, 0, 1, 0, 0, 2], .l [5, 0, 1, 0, 0], .b 0, .c [6]] ?_
            refine qG (sq 0 3) ?_
            refine uP 1 ?_
            refine uI ((i : Int) + 1) ?_
            refine uF 1 ?_
            have H := H.pick [4, 5, 6, 7, 8] rfl
            exact uB (s (i + 1, ds, L, D, sa, sk, g, seg, σ, ab, cb, ar, cr, aσ, cσ) _ ⟨H, by omega, hW.mono (by omega) (by omega) (by omega) (Nat.le_refl _) (by omega), hna, hL, hall, (by first | omega | (simp only [List.length_append, List.length_cons, List.length_nil]; omega)), hI⟩ (by first | omega | (simp only []; omega)))
         ·
          exact absurd J1 hA
      ·
       have H := H.frontM 2 rfl
       have H := H.frontM 2 rfl
       have H := H.frontM 2 rfl
       have H := H.frontW 1 rfl
       have H := H.frontW 1 rfl
       have H := H.gat 3 0
       refine uKS (vprep_found (ds := ds) hW hna hL hall (C := (l[i])) (C0 := C0) (hCs i (by omega)) z t ((H.lend (M1 := (_ :: _ :: _ :: (diskM _ _ _ _))) (W1 := [_, _])).pick [6, 7, 8, 5, 0] rfl)) ?_
       rintro v9 A0 ⟨h0, H'⟩
       rw [if_pos L0] at h0
       subst h0
       have H := H.back (M1 := (_ :: _ :: _ :: (diskM _ _ _ _))) (W1 := [_, _]) H'
       have H := H.ung 3
       have H : Hp w S [] (_ :: _ :: _ :: _) [_, _] [_, _, _, _, _, _, _, _, _] _ := H
       refine uF 1 ?_
       refine uR 2 [.c [5, 0, 1, 0, 0, 1, 0, 0, 3, 0, 0], .c [5, 0, 1, 0, 0, 1, 0, 0, 3, 0, 1], .c [5, 0, 1, 0, 0, 1, 0, 0, 4], .b 1, .c [5, 0, 1, 0, 0, 2], .l [5, 0, 1, 0, 0], .b 0, .c [6]] ?_
       refine qG (sq 0 29) ?_
       refine uP 6 ?_
       have e2 : i < l.length := by omega
       refine uX 114 (i : Int) H 4 rfl i (by omega) (List.getElem?_eq_getElem e2) ?_
       intro L2 M2 _ f2 H
       obtain ⟨_, e1, f1, rfl, g2, h2⟩ := chk_open f2
       obtain ⟨_, rfl, i2, _, _, _⟩ := hdr_open g2
       obtain ⟨rfl, _, _, _⟩ := cid_open i2
       have H := H.addR h2
       refine uP 2 ?_
       refine uV 82 0 (H.fc 1 rfl) ?_
       have H := H.frontM 2 rfl
       have H := H.frontM 2 rfl
       have H := H.frontM 2 rfl
       have H := H.frontW 1 rfl
       have H := H.frontW 1 rfl
       have H := H.gat 3 0
       refine uKS (vsettle_done (ds := ds) hW hna hL hall (D := (l[i]).head.id) (C := C0) (hCs i (by omega)).1 t (hI.1 _ _ t).2 ((H.lend (M1 := (_ :: _ :: _ :: (diskM _ _ _ _))) (W1 := [_, _])).pick [8, 9, 10, 7] rfl)) ?_
       rintro _ _ ⟨rfl, H'⟩
       have H := H.back (M1 := (_ :: _ :: _ :: (diskM _ _ _ _))) (W1 := [_, _]) H'
       have H := H.ung 3
       have H : Hp w S [] (_ :: _ :: _ :: _) [_, _] [_, Fc L2 M2 [.int .u64 ((((l[i]).head).id).version), .I ((((l[i]).head).id).index), .int .u64 ((((l[i]).head).id).epoch), .I (((l[i]).head).kk), .I (((l[i]).head).nn), .I (((l[i]).head).size), .int .u32 (((((l[i]).head).sum).toNat : Nat) : Int), .slice e1 ((l[i]).data.length) f1, .bool ((l[i]).done_)], _, _, _, _, _, _, _, _, _] _ := H
       refine uP 4 ?_
       refine uK (vused_spec (S := fun _ => True) (O := []) (H.viewM 0 rfl (by simp))) ?_
       rintro _ _ j2 rfl
       have H := H.ext j2
       refine uP 4 ?_
       refine uD 84 (((usedL (runD ds).1 : Int) : Int) > x1) (fun k2 => ?_) (fun k2 => ?_)
       ·
        omega
       ·
        refine qF 9 [(0, .I x1), (1, .slice al l.length cl), (5, .P e 0), (6, .P f 0), (8, .I i), (9, .I (usedL (runD ds).1 : Int)), (10, .I 0), (93, .bool false)] ?_
        refine uR 7 [.c [5, 0, 1, 0, 0, 2], .l [5, 0, 1, 0, 0], .b 0, .c [6]] ?_
        refine qG (sq 0 3) ?_
        refine uP 1 ?_
        refine uI ((i : Int) + 1) ?_
        refine uF 1 ?_
        have H := H.pick [6, 7, 8, 9, 10] rfl
        exact uB (s (i + 1, ds, L, D, sa, sk, g, seg, σ, ab, cb, ar, cr, aσ, cσ) _ ⟨H, by omega, hW.mono (by omega) (by omega) (by omega) (Nat.le_refl _) (by omega), hna, hL, hall, (by first | omega | (simp only [List.length_append, List.length_cons, List.length_nil]; omega)), hI⟩ (by first | omega | (simp only []; omega)))
      ·
       have H := H.frontM 2 rfl
       have H := H.frontM 2 rfl
       have H := H.frontM 2 rfl
       have H := H.frontW 1 rfl
       have H := H.frontW 1 rfl
       have H := H.gat 3 0
       refine uKS (vprep_found (ds := ds) hW hna hL hall (C := (l[i])) (C0 := C0) (hCs i (by omega)) z t ((H.lend (M1 := (_ :: _ :: _ :: (diskM _ _ _ _))) (W1 := [_, _])).pick [6, 7, 8, 5, 0] rfl)) ?_
       rintro v9 A0 ⟨h0, H'⟩
       rw [if_neg L0] at h0
       subst h0
       have H := H.back (M1 := (_ :: _ :: _ :: (diskM _ _ _ _))) (W1 := [_, _]) H'
       have H := H.ung 3
       have H : Hp w S [] (_ :: _ :: _ :: _) [_, _] [_, _, _, _, _, _, _, _, _] _ := H
       refine qF 1 [(0, .I x1), (1, .slice al l.length cl), (5, .P e 0), (6, .P f 0), (8, .I i), (9, .I (usedL (runD ds).1 : Int)), (10, .I 93)] ?_
       refine uR 2 [.c [5, 0, 1, 0, 0, 1, 0, 0, 3, 0, 0], .c [5, 0, 1, 0, 0, 1, 0, 0, 3, 0, 1], .c [5, 0, 1, 0, 0, 1, 0, 0, 4], .b 1, .c [5, 0, 1, 0, 0, 2], .l [5, 0, 1, 0, 0], .b 0, .c [6]] ?_
       refine qG (sq 0 29) ?_
       refine uP 15 ?_
       refine uK (vused_spec (S := fun _ => True) (O := []) (H.viewM 0 rfl (by simp))) ?_
       rintro _ _ g1 rfl
       have H := H.ext g1
       refine uP 4 ?_
       refine uD 84 (((usedL (runD ds).1 : Int) : Int) > x1) (fun l2 => ?_) (fun l2 => ?_)
       ·
        omega
       ·
        refine uP 4 ?_
        refine uK (vused_spec (S := fun _ => True) (O := []) (H.viewM 0 rfl (by simp))) ?_
        rintro _ _ hE105 rfl
        have H := H.ext hE105
        refine uF 4 ?_
        refine qN (usedL (runD ds).1 : Int) (usedL (runD ds).1 : Int) (fun m2 => ?_) (fun m2 => ?_)
        ·
         omega
        ·
         refine uR 6 [.c [5, 0, 1, 0, 0, 2], .l [5, 0, 1, 0, 0], .b 0, .c [6]] ?_
         refine qG (sq 0 3) ?_
         refine uP 1 ?_
         refine uI ((i : Int) + 1) ?_
         refine uF 1 ?_
         have H := H.pick [4, 5, 6, 7, 8] rfl
         exact uB (s (i + 1, ds, L, D, sa, sk, g, seg, σ, ab, cb, ar, cr, aσ, cσ) _ ⟨H, by omega, hW.mono (by omega) (by omega) (by omega) (Nat.le_refl _) (by omega), hna, hL, hall, (by first | omega | (simp only [List.length_append, List.length_cons, List.length_nil]; omega)), hI⟩ (by first | omega | (simp only []; omega)))
      ·
       have H := H.frontM 2 rfl
       have H := H.frontM 2 rfl
       have H := H.frontM 2 rfl
       have H := H.frontW 1 rfl
       have H := H.frontW 1 rfl
       have H := H.gat 3 0
       refine uKS (vprep_quota (ds := ds) hW hna hL hall (C := (l[i])) (hCs i (by omega)) z t (by omega) z0 ((H.lend (M1 := (_ :: _ :: _ :: (diskM _ _ _ _))) (W1 := [_, _])).pick [6, 7, 8, 5, 0] rfl)) ?_
       rintro _ A0 ⟨rfl, H'⟩
       have H := H.back (M1 := (_ :: _ :: _ :: (diskM _ _ _ _))) (W1 := [_, _]) H'
       have H := H.ung 3
       have H : Hp w S [] (_ :: _ :: _ :: _) [_, _] [_, _, _, _, _, _, _, _, _] _ := H
       refine uF 1 ?_
       refine uR 2 [.c [5, 0, 1, 0, 0, 1, 0, 0, 3, 0, 0], .c [5, 0, 1, 0, 0, 1, 0, 0, 3, 0, 1], .c [5, 0, 1, 0, 0, 1, 0, 0, 4], .b 1, .c [5, 0, 1, 0, 0, 2], .l [5, 0, 1, 0, 0], .b 0, .c [6]] ?_
       refine qG (sq 0 29) ?_
       refine uP 15 ?_
       refine uK (vused_spec (S := fun _ => True) (O := []) (H.viewM 0 rfl (by simp))) ?_
       rintro _ _ i1 rfl
       have H := H.ext i1
       refine uP 4 ?_
       refine uD 84 (((usedL (runD ds).1 : Int) : Int) > x1) (fun n2 => ?_) (fun n2 => ?_)
       ·
        omega
       ·
        refine uP 4 ?_
        refine uK (vused_spec (S := fun _ => True) (O := []) (H.viewM 0 rfl (by simp))) ?_
        rintro _ _ j1 rfl
        have H := H.ext j1
        refine uF 4 ?_
        refine qN (usedL (runD ds).1 : Int) (usedL (runD ds).1 : Int) (fun o2 => ?_) (fun o2 => ?_)
        ·
         omega
        ·
         refine uR 2 [.c [5, 0, 1, 0, 0, 1, 0, 0, 4, 0], .c [5, 0, 1, 0, 0, 1, 0, 0, 5], .b 1, .c [5, 0, 1, 0, 0, 2], .l [5, 0, 1, 0, 0], .b 0, .c [6]] ?_
         refine qG (sq 0 14) ?_
         refine qP 6 (sq 6 14) [(0, .I x1), (1, .slice al l.length cl), (5, .P e 0), (6, .P f 0), (8, .I i), (96, .bool true), (97, .I (usedL (runD ds).1 : Int)), (98, .slice al l.length cl), (99, .I i)] ?_
         have k1 : i < l.length := by omega
         refine uX 114 (i : Int) H 4 rfl i (by omega) (List.getElem?_eq_getElem k1) ?_
         intro _ _ _ l1 H
         obtain ⟨_, _, _, rfl, m1, n1⟩ := chk_open l1
         obtain ⟨_, rfl, o1, _, _, _⟩ := hdr_open m1
         obtain ⟨rfl, _, _, _⟩ := cid_open o1
         have H := H.addR n1
         refine uP 1 ?_
         refine uV 23 7 (H.fc 1 rfl) ?_
         refine uP 1 ?_
         refine uI ((usedL (runD ds).1 : Int) + (((l[i]).data.length : Nat) : Int)) ?_
         refine uF 3 ?_
         refine qD (((usedL (runD ds).1 : Int) + (((l[i]).data.length : Nat) : Int) : Int) ≤ x1) (fun p2 => ?_) (fun p2 => ?_)
         ·
          omega
         ·
          refine uR 2 [.c [5, 0, 1, 0, 0, 2], .l [5, 0, 1, 0, 0], .b 0, .c [6]] ?_
          refine qG (sq 0 3) ?_
          refine uP 1 ?_
          refine uI ((i : Int) + 1) ?_
          refine uF 1 ?_
          have H := H.pick [6, 7, 8, 9, 10] rfl
          exact uB (s (i + 1, ds, L, D, sa, sk, g, seg, σ, ab, cb, ar, cr, aσ, cσ) _ ⟨H, by omega, hW.mono (by omega) (by omega) (by omega) (Nat.le_refl _) (by omega), hna, hL, hall, (by first | omega | (simp only [List.length_append, List.length_cons, List.length_nil]; omega)), hI⟩ (by first | omega | (simp only []; omega)))
      ·
       have H := H.frontM 2 rfl
       have H := H.frontM 2 rfl
       have H := H.frontM 2 rfl
       have H := H.frontW 1 rfl
       have H := H.frontW 1 rfl
       have H := H.gat 3 0
       refine uKS (vprep_new (ds := ds) (C := (l[i])) hW hna hL hall (by omega) (by omega) (by omega) (by omega) (by first | omega | (simp only [List.length_append, List.length_cons, List.length_nil]; omega)) (hCs i (by omega)) z t z0 ((H.lend (M1 := (_ :: _ :: _ :: (diskM _ _ _ _))) (W1 := [_, _])).pick [6, 7, 8, 5, 0] rfl)) ?_
       rintro _ A0 ⟨rfl, r0, B0, D0, q2, M0, σ136, E0, F0, G0, H0, N0, p1, O0, q1, H'⟩
       have Y := allD_snoc hall (d := Deed.prep ⟨(l[i]).head, (l[i]).data, false⟩) ⟨t, (hCs i (by omega)), whole_len z⟩
       have H := H.back (M1 := (_ :: _ :: _ :: (diskM _ _ _ _))) (W1 := [_, _]) H'
       have H := H.ung 3
       have H : Hp w S [] ((f, .cells #[.P o 0, .P e 0, .map (some r), .I x1, .I (usedL (runD (ds ++ [Deed.prep ⟨(l[i]).head, (l[i]).data, false⟩])).1 : Int), .I ((ds ++ [Deed.prep ⟨(l[i]).head, (l[i]).data, false⟩]).length : Int)] 119 (0, 0)) :: (r, mapO cidV veV N0 ((runD (ds ++ [Deed.prep ⟨(l[i]).head, (l[i]).data, false⟩])).2)) :: (o, .cells #[.P e 0, .string (⟨#[118]⟩ : ByteArray), .slice ab (([] : List (BitVec 8)).length) cb, .slice E0 (((ds ++ [Deed.prep ⟨(l[i]).head, (l[i]).data, false⟩]).map encD).length) F0, .I q2, .string M0, .slice G0 σ136.length H0, .bool true] 41 (0, 0)) :: (diskM e r0 B0 D0)) [⟨SB, 23, .slice E0 (((ds ++ [Deed.prep ⟨(l[i]).head, (l[i]).data, false⟩]).map encD).length) F0, ((ds ++ [Deed.prep ⟨(l[i]).head, (l[i]).data, false⟩]).map encD)⟩, ⟨stepS, 143, .slice B0 r0.steps.length D0, r0.steps⟩] [_, Rp SB [.slice G0 σ136.length H0] σ136, Fall N0, _, _, _, _, _, _, _, _, _] _ := H
       refine uF 1 ?_
       refine uR 2 [.c [5, 0, 1, 0, 0, 1, 0, 0, 3, 0, 0], .c [5, 0, 1, 0, 0, 1, 0, 0, 3, 0, 1], .c [5, 0, 1, 0, 0, 1, 0, 0, 4], .b 1, .c [5, 0, 1, 0, 0, 2], .l [5, 0, 1, 0, 0], .b 0, .c [6]] ?_
       refine qG (sq 0 29) ?_
       refine uP 6 ?_
       have r1 : i < l.length := by omega
       refine uX 114 (i : Int) H 7 rfl i (by omega) (List.getElem?_eq_getElem r1) ?_
       intro P0 Q0 _ s1 H
       obtain ⟨_, R0, S0, rfl, t1, u1⟩ := chk_open s1
       obtain ⟨_, rfl, v1, _, _, _⟩ := hdr_open t1
       obtain ⟨rfl, _, _, _⟩ := cid_open v1
       have H := H.addR u1
       refine qP 2 (sq 9 29) [(0, .I x1), (1, .slice al l.length cl), (5, .P e 0), (6, .P f 0), (8, .I i), (9, .I (usedL (runD ds).1 : Int)), (10, .I 0), (67, .bool true), (68, .P f 0), (73, .P P0 Q0)] ?_
       refine uV 82 0 (H.fc 1 rfl) ?_
       have S2 : (encD (Deed.prep ⟨(l[i]).head, (l[i]).data, false⟩)).length ≤ (l[i]).data.length + 120 := prep_enc (c := ⟨(l[i]).head, (l[i]).data, false⟩) ⟨(hCs i (by omega)), whole_len z⟩
       have T2 := settle_enc (hCs i (by omega)).1
       have I0 : HoldI (runD ((ds ++ [Deed.prep ⟨(l[i]).head, (l[i]).data, false⟩]) ++ [Deed.settle (l[i]).head.id])) x1 := hold_new (c := ⟨(l[i]).head, (l[i]).data, false⟩) hI z t z0
       have U2 := I0.2
       have H := H.frontM 2 rfl
       have H := H.frontM 2 rfl
       have H := H.frontM 2 rfl
       have H := H.frontW 1 rfl
       have H := H.frontW 1 rfl
       have H := H.gat 3 0
       refine uKS (vsettle_save (ds := (ds ++ [Deed.prep ⟨(l[i]).head, (l[i]).data, false⟩])) p1 O0 q1 Y (by omega) (by omega) (by omega) (by omega) (by first | omega | (simp only [List.length_append, List.length_cons, List.length_nil]; omega)) (D := (l[i]).head.id) (C := (⟨(l[i]).head, (l[i]).data, false⟩ : Chk)) (hCs i (by omega)).1 (prep_find ds ⟨(l[i]).head, (l[i]).data, false⟩) rfl ((H.lend (M1 := (_ :: _ :: _ :: (diskM _ _ _ _))) (W1 := [_, _])).pick [2, 3, 4, 10] rfl)) ?_
       rintro _ _ ⟨rfl, Z, a0, b0, T0, i0, σ169, c0, d0, e0, f0, s0, w1, U0, y1, H'⟩
       have J0 := allD_snoc Y (d := Deed.settle ((l[i]).head.id)) ⟨⟨_, (prep_find ds ⟨(l[i]).head, (l[i]).data, false⟩)⟩, (hCs i (by omega)).1⟩
       have H := H.back (M1 := (_ :: _ :: _ :: (diskM _ _ _ _))) (W1 := [_, _]) H'
       have H := H.ung 3
       have H : Hp w S [] ((f, .cells #[.P o 0, .P e 0, .map (some r), .I x1, .I (usedL (runD ((ds ++ [Deed.prep ⟨(l[i]).head, (l[i]).data, false⟩]) ++ [Deed.settle ((l[i]).head.id)])).1 : Int), .I (((ds ++ [Deed.prep ⟨(l[i]).head, (l[i]).data, false⟩]) ++ [Deed.settle ((l[i]).head.id)]).length : Int)] 119 (0, 0)) :: (r, mapO cidV veV s0 ((runD ((ds ++ [Deed.prep ⟨(l[i]).head, (l[i]).data, false⟩]) ++ [Deed.settle ((l[i]).head.id)])).2)) :: (o, .cells #[.P e 0, .string (⟨#[118]⟩ : ByteArray), .slice ab (([] : List (BitVec 8)).length) cb, .slice c0 ((((ds ++ [Deed.prep ⟨(l[i]).head, (l[i]).data, false⟩]) ++ [Deed.settle ((l[i]).head.id)]).map encD).length) d0, .I T0, .string i0, .slice e0 σ169.length f0, .bool true] 41 (0, 0)) :: (diskM e Z a0 b0)) [⟨SB, 23, .slice c0 ((((ds ++ [Deed.prep ⟨(l[i]).head, (l[i]).data, false⟩]) ++ [Deed.settle ((l[i]).head.id)]).map encD).length) d0, (((ds ++ [Deed.prep ⟨(l[i]).head, (l[i]).data, false⟩]) ++ [Deed.settle ((l[i]).head.id)]).map encD)⟩, ⟨stepS, 143, .slice a0 Z.steps.length b0, Z.steps⟩] [_, Rp SB [.slice e0 σ169.length f0] σ169, Fall s0, _, Fc P0 Q0 [.int .u64 ((((l[i]).head).id).version), .I ((((l[i]).head).id).index), .int .u64 ((((l[i]).head).id).epoch), .I (((l[i]).head).kk), .I (((l[i]).head).nn), .I (((l[i]).head).size), .int .u32 (((((l[i]).head).sum).toNat : Nat) : Int), .slice R0 ((l[i]).data.length) S0, .bool ((l[i]).done_)], _, _, _, _, _, _, _, _, _, _, _, _] _ := H
       refine uP 4 ?_
       refine uK (vused_spec (S := fun _ => True) (O := []) (H.viewM 0 rfl (by simp))) ?_
       rintro _ _ z1 rfl
       have H := H.ext z1
       refine uP 4 ?_
       refine uD 84 (((usedL (runD ((ds ++ [Deed.prep ⟨(l[i]).head, (l[i]).data, false⟩]) ++ [Deed.settle ((l[i]).head.id)])).1 : Int) : Int) > x1) (fun r2 => ?_) (fun r2 => ?_)
       ·
        omega
       ·
        refine uF 9 ?_
        refine uR 7 [.c [5, 0, 1, 0, 0, 2], .l [5, 0, 1, 0, 0], .b 0, .c [6]] ?_
        refine qG (sq 0 3) ?_
        refine uP 1 ?_
        refine uI ((i : Int) + 1) ?_
        refine uF 1 ?_
        have H := H.pick [12, 13, 0, 1, 2] rfl
        exact uB (s (i + 1, ((ds ++ [Deed.prep ⟨(l[i]).head, (l[i]).data, false⟩]) ++ [Deed.settle ((l[i]).head.id)]), s0, Z, a0, b0, T0, i0, σ169, ab, cb, c0, d0, e0, f0) _ ⟨H, by omega, w1.mono (by omega) (by omega) (by omega) (Nat.le_refl _) (by omega), U0, y1, J0, (by first | omega | (simp only [List.length_append, List.length_cons, List.length_nil]; omega)), I0⟩ (by first | omega | (simp only []; omega)))
    ·
     refine uR 2 [.c [6, 0], .c [7]] ?_
     refine qG (sq 0 8) ?_
     refine uP 2 ?_
     have H := H.frontW 1 rfl
     have H := H.gat 0 3
     refine uKS (vopen_spec (n := 20000000) (m := (1 + 4 * i)) (q := (0 + 1)) (c := (1 + 4 * i)) (ds := ds) plainV hW.di (hW.al.mono (by omega)) hna hW.op hW.cap (by omega) (fun B R h => h) hall (by omega) (by omega) (by omega) ⟨by omega, by omega⟩ ((H.lend (M1 := (diskM _ _ _ _)) (W1 := [_])).pick [1] rfl)) ?_
     rintro _ _ ⟨u, x, y, t0, F, J, K, M, A, N, Q, V, rfl, A1, V0, g0, H'⟩
     have H := H.back (M1 := (diskM _ _ _ _)) (W1 := [_]) H'
     have H := H.ung 3
     have H : Hp w S [] ((u, .cells #[.P x 0, .P e 0, .map (some y), .I x1, .I (usedL (runD ds).1 : Int), .I (ds.length : Int)] 119 (0, 0)) :: (y, mapO cidV veV V ((runD ds).2)) :: (x, .cells #[.P e 0, .string (⟨#[118]⟩ : ByteArray), .slice F (([] : List (BitVec 8)).length) J, .slice K (ds.map encD).length M, .I t0, .string (⟨#[]⟩ : ByteArray), .slice none (([] : List (BitVec 8)).length) 0, .bool true] 41 (0, 0)) :: _ :: _ :: _ :: (diskM e A N Q)) [⟨SB, 23, .slice K (ds.map encD).length M, (ds.map encD)⟩, ⟨stepS, 143, .slice N A.steps.length Q, A.steps⟩, _] [Rp SB [.slice F (([] : List (BitVec 8)).length) J] ([] : List (BitVec 8)), _, Fall V, _, _, _, _, _] _ := H
     refine uF 5 ?_
     refine uR 2 [.c [7, 0, 0], .c [7, 0, 1], .c [8]] ?_
     refine qG (sq 0 13) ?_
     refine uP 8 ?_
     refine uK (vused_spec (S := fun _ => True) (O := []) (H.viewM 0 rfl (by simp))) ?_
     rintro _ _ B1 rfl
     have H := H.ext B1
     refine qP 1 (sq 10 13) [(11, .P u 0), (120, .bool false), (122, .I (usedL (runD ds).1 : Int)), (123, .P f 0)] ?_
     refine uK (vused_spec (S := fun _ => True) (O := []) (H.viewM 3 rfl (by simp))) ?_
     rintro _ _ C1 rfl
     have H := H.ext C1
     refine uF 2 ?_
     refine qN (usedL (runD ds).1 : Int) (usedL (runD ds).1 : Int) (fun s2 => ?_) (fun s2 => ?_)
     ·
      omega
     ·
      refine uR 4 [.c [9, 0], .c [10]] ?_
      refine qG (sq 0 3) ?_
      refine uP 1 ?_
      obtain ⟨N2, O2, P2, _⟩ := vkeys_ok g0 hall (by omega)
      have H := H.frontM 1 rfl
      have H := H.frontM 1 rfl
      refine uKS (vlist_spec N2 O2 P2 ((H.lend (M1 := [_, _]) (W1 := [])).pick [] rfl)) ?_
      rintro _ _ ⟨W, X, a, W0, rfl, H'⟩
      have H := H.back (M1 := [_, _]) (W1 := []) H'
      have H : Hp w S [] (_ :: _ :: _ :: _ :: _ :: _ :: _) [⟨cidS, 82, .slice W a.length X, a⟩, _, _, _] [_, _, _, _, _, _, _, _] _ := H
      refine uF 1 ?_
      refine uR 4 [.c [10, 0, 1, 0], .b 2, .c [11]] ?_
      have u0 := ids_perm g0 W0
      have V2 : a.length ≤ 1000 := by have h8 := u0.length_eq; rw [List.length_map] at h8; have h9 := runD_len ds; omega
      have H : Hp w S [] (_ :: _ :: _ :: _ :: _ :: _ :: _) [_, _, _] [Rp (Shape.slice cidS) [.slice W a.length X] a, _, _, _, _, _, _, _, _] _ := H.freezeW 0 rfl
      refine uL (α := Nat × Nat) (g := 10) (p := [10, 0, 1, 0, 0]) (fun (j, n) => [(11, .P u 0), (13, .I n), (14, .slice W a.length X), (15, .I j)]) (fun (j, n) w' => Hp w S [] ((u, .cells #[.P x 0, .P e 0, .map (some y), .I x1, .I (usedL (runD ds).1 : Int), .I (ds.length : Int)] 119 (0, 0)) :: (y, mapO cidV veV V ((runD ds).2)) :: (x, .cells #[.P e 0, .string (⟨#[118]⟩ : ByteArray), .slice F (([] : List (BitVec 8)).length) J, .slice K (ds.map encD).length M, .I t0, .string (⟨#[]⟩ : ByteArray), .slice none (([] : List (BitVec 8)).length) 0, .bool true] 41 (0, 0)) :: (f, .cells #[.P o 0, .P e 0, .map (some r), .I x1, .I (usedL (runD ds).1 : Int), .I (ds.length : Int)] 119 (0, 0)) :: (r, mapO cidV veV L ((runD ds).2)) :: (o, .cells #[.P e 0, .string (⟨#[118]⟩ : ByteArray), .slice ab (([] : List (BitVec 8)).length) cb, .slice ar (ds.map encD).length cr, .I g, .string seg, .slice aσ σ.length cσ, .bool true] 41 (0, 0)) :: (diskM e A N Q)) [⟨SB, 23, .slice K (ds.map encD).length M, (ds.map encD)⟩, ⟨stepS, 143, .slice N A.steps.length Q, A.steps⟩, ⟨SB, 23, .slice ar (ds.map encD).length cr, (ds.map encD)⟩] [Rp (Shape.slice cidS) [.slice W a.length X] a, Rp SB [.slice F (([] : List (BitVec 8)).length) J] ([] : List (BitVec 8)), Rp SB [.slice none (([] : List (BitVec 8)).length) 0] ([] : List (BitVec 8)), Fall V, Rp (Shape.slice chkS) [.slice al l.length cl] l, Fz jQ, Rp SB [.slice ab (([] : List (BitVec 8)).length) cb] ([] : List (BitVec 8)), Rp SB [.slice aσ σ.length cσ] σ, Fall L] w' ∧ j ≤ a.length ∧ n = sumI (runD ds).1 a j ∧ n ≤ 65536 * j) (fun (j, n) => a.length - j) (0, 0) ⟨H, Nat.zero_le _, rfl, Nat.le_refl _⟩ ?_
      rintro ⟨j, n⟩ _ ⟨H, ⟨hj, hn, hnm⟩⟩ v0
      refine uR 3 [.c [10, 0, 1, 0, 0, 0, 1], .c [10, 0, 1, 0, 0, 1], .l [10, 0, 1, 0, 0], .b 2, .c [11]] ?_
      refine qD (((j : Int) : Int) < ((a.length : Nat) : Int)) (fun t2 => ?_) (fun t2 => ?_)
      ·
       refine uR 4 [.c [10, 0, 1, 0, 0, 1, 0, 0, 0], .c [10, 0, 1, 0, 0, 1, 0, 0, 1], .b 3, .c [10, 0, 1, 0, 0, 2], .l [10, 0, 1, 0, 0], .b 2, .c [11]] ?_
       refine qG (sq 0 12) ?_
       refine uP 3 ?_
       have D1 : j < a.length := by omega
       refine uX 110 (j : Int) H 0 rfl j (by omega) (List.getElem?_eq_getElem D1) ?_
       intro u2 v2 _ E1 H
       obtain ⟨rfl, _, _, _⟩ := cid_open E1
       refine uV 82 0 (H.fc 0 rfl) ?_
       obtain ⟨k, j0⟩ := ids_find u0 (show j < a.length by omega)
       obtain ⟨Q2, x2⟩ := hI.1 _ _ j0
       have X0 := (allD_small hall).1.find j0
       have W2 := X0.2
       have y2 : CidOk (a[j]) := by have h9 := (runD_ok ds).2.find j0; rw [← h9]; exact X0.1.1
       have H := H.frontM 2 rfl
       have H := H.frontM 2 rfl
       have H := H.frontM 2 rfl
       have H := H.frontW 1 rfl
       have H := H.frontW 1 rfl
       have H := H.gat 3 3
       refine uKS (vget_ok (ds := ds) A1 V0 g0 hall (D := (a[j])) (C := k) y2 j0 Q2 ((H.lend (M1 := (_ :: _ :: _ :: (diskM _ _ _ _))) (W1 := [_, _])).pick [2, 3, 4, 6] rfl)) ?_
       rintro _ _ ⟨w0, x0, rfl, H'⟩
       have H := H.back (M1 := (_ :: _ :: _ :: (diskM _ _ _ _))) (W1 := [_, _]) H'
       have H := H.ung 3
       have H : Hp w S [] (_ :: _ :: _ :: _ :: _ :: _ :: _) [⟨Sb, 5, .slice w0 k.data.length x0, k.data⟩, _, _, _] [Fc u2 v2 [.int .u64 ((a[j]).version), .I ((a[j]).index), .int .u64 ((a[j]).epoch)], _, _, _, _, _, _, _, _, _] _ := H
       refine uP 3 ?_
       refine uC #[.int .u64 0, .I 0, .int .u64 0, .I 0, .I 0, .I 0, .int .u32 0, .slice none 0 0, .bool false] 102 H ?_
       intro Y0 _ H
       refine qW 102 Y0 0 (sq 11 12) (.agg #[.int .u64 k.head.id.version, .I k.head.id.index, .int .u64 k.head.id.epoch, .I k.head.kk, .I k.head.nn, .I k.head.size, .int .u32 ((k.head.sum.toNat : Nat) : Int), .slice w0 k.data.length x0, .bool k.done_]) ((Y0, .cells #[.int .u64 k.head.id.version, .I k.head.id.index, .int .u64 k.head.id.epoch, .I k.head.kk, .I k.head.nn, .I k.head.size, .int .u32 ((k.head.sum.toNat : Nat) : Int), .slice w0 k.data.length x0, .bool k.done_] 102 (0, 0)) :: (u, .cells #[.P x 0, .P e 0, .map (some y), .I x1, .I (usedL (runD ds).1 : Int), .I (ds.length : Int)] 119 (0, 0)) :: (y, mapO cidV veV V ((runD ds).2)) :: (x, .cells #[.P e 0, .string (⟨#[118]⟩ : ByteArray), .slice F (([] : List (BitVec 8)).length) J, .slice K (ds.map encD).length M, .I t0, .string (⟨#[]⟩ : ByteArray), .slice none (([] : List (BitVec 8)).length) 0, .bool true] 41 (0, 0)) :: (f, .cells #[.P o 0, .P e 0, .map (some r), .I x1, .I (usedL (runD ds).1 : Int), .I (ds.length : Int)] 119 (0, 0)) :: (r, mapO cidV veV L ((runD ds).2)) :: (o, .cells #[.P e 0, .string (⟨#[118]⟩ : ByteArray), .slice ab (([] : List (BitVec 8)).length) cb, .slice ar (ds.map encD).length cr, .I g, .string seg, .slice aσ σ.length cσ, .bool true] 41 (0, 0)) :: (diskM e A N Q)) H 0 rfl rfl ?_
       intro _ H
       refine uF 1 ?_
       refine uR 2 [.c [10, 0, 1, 0, 0, 1, 0, 0, 1, 0, 0], .c [10, 0, 1, 0, 0, 1, 0, 0, 1, 0, 1], .c [10, 0, 1, 0, 0, 1, 0, 0, 2], .b 3, .c [10, 0, 1, 0, 0, 2], .l [10, 0, 1, 0, 0], .b 2, .c [11]] ?_
       refine qG (sq 0 7) ?_
       refine uP 4 ?_
       refine uV 4 8 (H.cells 0 rfl) ?_
       refine uF 2 ?_
       refine qC (!k.done_) (fun E => ?_) (fun E => ?_)
       ·
        replace E : (k.done_) = false := by revert E; cases (k.done_) <;> simp
        (rw [x2] at E; cases E)
       ·
        replace E : (k.done_) = true := by revert E; cases (k.done_) <;> simp
        refine uR 1 [.c [10, 0, 1, 0, 0, 1, 0, 0, 2], .b 3, .c [10, 0, 1, 0, 0, 2], .l [10, 0, 1, 0, 0], .b 2, .c [11]] ?_
        refine qG (sq 0 6) ?_
        refine uP 2 ?_
        refine uV 23 7 (H.cells 0 rfl) ?_
        refine qP 1 (sq 4 6) [(11, .P u 0), (13, .I n), (14, .slice W a.length X), (15, .I j), (151, .I n), (154, .I ((k.data.length : Nat) : Int))] ?_
        refine uI ((n : Int) + ((k.data.length : Nat) : Int)) ?_
        refine uF 1 ?_
        refine uR 1 [.c [10, 0, 1, 0, 0, 2], .l [10, 0, 1, 0, 0], .b 2, .c [11]] ?_
        refine qG (sq 0 3) ?_
        refine uP 1 ?_
        refine uI ((j : Int) + 1) ?_
        refine uF 1 ?_
        have H := H.pick [1, 2, 3, 4, 5, 6, 7, 8, 9] rfl
        have H := H.frontW 3 rfl
        have H := H.frontW 3 rfl
        have H := H.frontW 3 rfl
        have H := H.dropM 0
        have H := H.dropW 3
        exact uB (v0 (j + 1, n + k.data.length) _ ⟨H, by omega, by rw [sumI_step (by omega), ← hn, lenAt_some j0], by omega⟩ (by first | omega | (simp only []; omega)))
      ·
       have R2 : j = a.length := by omega
       have X2 : n = usedL (runD ds).1 := by rw [hn, R2]; exact sumI_all (runD_ok ds).1 u0
       refine uR 2 [.c [11, 0], .c [12]] ?_
       refine qG (sq 0 8) ?_
       refine uP 2 ?_
       refine uK (vused_spec (S := fun _ => True) (O := []) (H.viewM 0 rfl (by simp))) ?_
       rintro _ _ F1 rfl
       have H := H.ext F1
       refine qP 2 (sq 5 8) [(160, .bool ((n : Int) == (usedL (runD ds).1 : Int)))] ?_
       refine uE 160 (n : Int) (usedL (runD ds).1 : Int) (fun z2 => ?_) (fun z2 => ?_)
       ·
        refine uK (heads9_spec (S := fun _ => True) (H.viewF 5 rfl)) ?_
        rintro _ _ G1 rfl
        have H := H.ext G1
        refine uF 2 ?_
        refine qT (.bool true) Tryz.func10 ?_
        exact ⟨_, rfl, H.done, rfl⟩
       ·
        omega
theorem holds_spec {S : Nat → Prop} {w : World} {l : List Chk} {al : Option Addr} {cl : Nat} (x1 : Int) (hr : (Rp (Shape.slice chkS) [.slice al l.length cl] l).p S w) (hq : (Fz jQ).p S w) :
 Calls Tryz.prog 10 #[.I x1, .slice al l.length cl] w (Ret fun v w' => Ext w w' ∧ v = .bool true) := by
 by_cases h : x1 < 0 ∨ 100000 < x1 ∨ 60 < l.length
 · exact holds_no x1 h hr hq
 · exact holds_yes x1 (by omega) (by omega) (by omega) hr hq
end Go.Proofs.YtdnibpclkhenmaaGreatDoor
