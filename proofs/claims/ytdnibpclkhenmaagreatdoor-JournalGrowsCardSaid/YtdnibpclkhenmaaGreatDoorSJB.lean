import Derived.Test.YtdnibpclkhenmaaGreatDoorSJ9
import Derived.Test.YtdnibpclkhenmaaGreatDoorSBxB
namespace Go.Proofs.YtdnibpclkhenmaaGreatDoor
open Go.BX
theorem junk_yes {nm x : ByteArray} {l : Nat} (h : (0 < numB nm kS x ∧ numB nm kS x < l) ∨ (0 < numB nm kC x ∧ numB nm kC x < l) ∨ x.toList = (nm ++ (⟨#[46, 116]⟩ : ByteArray)).toList) : Junk nm l x := by
 rcases h with ⟨h1, h2⟩ | ⟨h1, h2⟩ | h
 · exact .inr (.inl ⟨_, numB_of rfl h1, h2⟩)
 · exact .inl ⟨_, numB_of rfl h1, h2⟩
 · exact .inr (.inr (toList_inj h))
theorem junk_no {nm x : ByteArray} {l : Nat} (hp : PlainB nm) (hx : FForm x) (h : ¬ ((0 < numB nm kS x ∧ numB nm kS x < l) ∨ (0 < numB nm kC x ∧ numB nm kC x < l) ∨ x.toList = (nm ++ (⟨#[46, 116]⟩ : ByteArray)).toList)) : ¬ Junk nm l x := by
 rintro (⟨n, rfl, hn⟩ | ⟨n, rfl, hn⟩ | rfl)
 · have h1 := (FForm.pos hp (.inr rfl) hx).1
   exact h (.inr (.inl ⟨by rw [numB_yes hp (.inr rfl) h1]; exact h1, by rw [numB_yes hp (.inr rfl) h1]; exact hn⟩))
 · have h1 := (FForm.pos hp (.inl rfl) hx).1
   exact h (.inl ⟨by rw [numB_yes hp (.inl rfl) h1]; exact h1, by rw [numB_yes hp (.inl rfl) h1]; exact hn⟩)
 · exact h (.inr (.inr rfl))
theorem DrS.ff {D0 D : DiskD} {nm : ByteArray} {V : VV} {g n : Nat} {x : ByteArray} {rest : List ByteArray} (h : DrS D0 nm V g n (x :: rest) D) : FForm x := by
 obtain ⟨o, ho⟩ := Option.ne_none_iff_exists'.1 (h.mem x (List.mem_cons_self ..))
 exact h.di.form _ _ _ ho
theorem DrS.sz {D0 D : DiskD} {nm : ByteArray} {V : VV} {g n : Nat} {x : ByteArray} {rest : List ByteArray} (h : DrS D0 nm V g n (x :: rest) D) : x.size ≤ maxLen := by
 have := h.ff.size.1
 unfold maxLen; omega
set_option maxHeartbeats 1000000 in
theorem jdrop_spec {S : Nat → Prop} {w : World} {O : List Nat} {jb db : Nat} {nm : ByteArray} {x2 x3 x4 x5 x6 x7 : Value} {D0 : DiskD} {sa0 : Option Addr} {sk0 : Nat} {Dz : DiskD} {V : VV} {g n : Nat} (hp : PlainB nm) (hr0 : Rdy D0) (hnl : D0.now.length ≤ 256) (hS : ∀ ns : List ByteArray, ns.Perm (D0.now.map (·.1)) → DrS Dz nm V g n ns D0) (H0 : Hp w S O ((jb, .cells #[.P db 0, .string nm, x2, x3, x4, x5, x6, x7] 41 (0, 0)) :: diskM db D0 sa0 sk0) [⟨stepS, 143, .slice sa0 D0.steps.length sk0, D0.steps⟩] [] w) :
 Calls Tryz.prog 56 #[.P jb 0, .I (V.last : Int)] w (Ret fun v w' => (v = .nilIface ∧ ∃ (D' : DiskD) (sa' : Option Addr) (sk' : Nat), DrS Dz nm V g n [] D' ∧ Hp w S O ((jb, .cells #[.P db 0, .string nm, x2, x3, x4, x5, x6, x7] 41 (0, 0)) :: diskM db D' sa' sk') [diskW D' sa' sk'] [] w') ∨ (∃ eb : Nat, v = .iface 200 (.P eb 0) ∧ ∃ (D' : DiskD) (sa' : Option Addr) (sk' : Nat), Dd Dz D' nm g (fun B lo hi => B = V.B ∧ V.hi <+: lo ∧ hi <+: V.hi) ∧ Hp w S O ((eb, .cells #[.I 70] 204 (0, 0)) :: (jb, .cells #[.P db 0, .string nm, x2, x3, x4, x5, x6, x7] 41 (0, 0)) :: diskM db D' sa' sk') [diskW D' sa' sk'] [] w')) := by
 have hs1 : nm.size ≤ 16 := hp.1
 have hs3 : ({ data := #[46, 116] } : ByteArray).size = 2 := rfl
 refine qS (fn := Tryz.f56) (n := 68) (σ := [(0, .P jb 0), (1, .I (V.last : Int))]) Tryz.func56 ?_
 have H := H0
 refine qR 4 [.c [1, 0, 0], .c [1, 0, 1], .c [2]] [(0, .P jb 0), (1, .I (V.last : Int))] ?_
 refine qG (sq 0 7) ?_
 refine qP 3 (sq 3 7) [(0, .P jb 0), (1, .I (V.last : Int)), (14, .P jb 0)] ?_
 refine qL .seq 15 (sq 4 7) 24 jb 0 0 (.P db 0) (H.cells 0 rfl) ?_
 have H := H.perms (M' := diskM db D0 sa0 sk0 ++ [(jb, .cells #[.P db 0, .string nm, x2, x3, x4, x5, x6, x7] 41 (0, 0))]) (W' := [⟨stepS, 143, .slice sa0 D0.steps.length sk0, D0.steps⟩]) (List.perm_append_comm (l₁ := diskM db D0 sa0 sk0) (l₂ := ([(jb, .cells #[.P db 0, .string nm, x2, x3, x4, x5, x6, x7] 41 (0, 0))] : Heap))) (List.Perm.refl _)
 refine RW.callS (d := some 16) (r := (sq 5 7)) (g := 105) (args := #[.P db 0]) (by as_aux_lemma => kernel_rfl) (dNames hr0.di hr0.dead (hnl) ((H.lend (M1 := diskM db D0 sa0 sk0) (W1 := [⟨stepS, 143, .slice sa0 D0.steps.length sk0, D0.steps⟩])).pick [] rfl)) ?_
 rintro _ w1 ⟨a2, c3, ns4, hn5, rfl, H'⟩
 have H := H.back (M1 := diskM db D0 sa0 sk0) (W1 := [⟨stepS, 143, .slice sa0 D0.steps.length sk0, D0.steps⟩]) H'
 have H := H.perms (M' := ((jb, .cells #[.P db 0, .string nm, x2, x3, x4, x5, x6, x7] 41 (0, 0)) :: (diskM db D0 sa0 sk0))) (W' := [⟨Shape.str, 9, .slice a2 ns4.length c3, ns4⟩, ⟨stepS, 143, .slice sa0 D0.steps.length sk0, D0.steps⟩]) ((List.perm_append_comm (l₁ := diskM db D0 sa0 sk0) (l₂ := ([(jb, .cells #[.P db 0, .string nm, x2, x3, x4, x5, x6, x7] 41 (0, 0))] : Heap))).symm) (List.Perm.refl _)
 have H : Hp w S O ((jb, .cells #[.P db 0, .string nm, x2, x3, x4, x5, x6, x7] 41 (0, 0)) :: (diskM db D0 sa0 sk0)) [⟨Shape.str, 9, .slice a2 ns4.length c3, ns4⟩, ⟨stepS, 143, .slice sa0 D0.steps.length sk0, D0.steps⟩] [] _ := H
 have H : Hp w S O ((jb, .cells #[.P db 0, .string nm, x2, x3, x4, x5, x6, x7] 41 (0, 0)) :: (diskM db D0 sa0 sk0)) [⟨stepS, 143, .slice sa0 D0.steps.length sk0, D0.steps⟩] [Rp (Shape.slice Shape.str) [.slice a2 ns4.length c3] ns4] _ := H.freezeW 0 rfl
 have hnP := hS ns4 hn5
 have hnL : ns4.length ≤ 256 := by rw [hn5.length_eq, List.length_map]; exact hnl
 refine qF 2 [(0, .P jb 0), (1, .I (V.last : Int)), (16, .slice a2 ns4.length c3), (17, .I ((ns4.length : Nat) : Int)), (18, .I 0)] ?_
 refine qR 1 [.c [1, 0, 1, 0], .b 0, .c [2]] [(0, .P jb 0), (1, .I (V.last : Int)), (16, .slice a2 ns4.length c3), (17, .I ((ns4.length : Nat) : Int)), (18, .I 0)] ?_
 refine WK.loop (α := Nat × DiskD × Option Addr × Nat) (b := cd Tryz.prog 56 [1, 0, 1, 0, 0]) (by as_aux_lemma => kernel_rfl) (fun st_ => match st_ with | (i, D, sa, sk) => [(0, .P jb 0), (1, .I (V.last : Int)), (16, .slice a2 ns4.length c3), (17, .I ((ns4.length : Nat) : Int)), (18, .I i)]) (fun st_ w' => match st_ with | (i, D, sa, sk) => Hp w S O ((jb, .cells #[.P db 0, .string nm, x2, x3, x4, x5, x6, x7] 41 (0, 0)) :: (diskM db D sa sk)) [⟨stepS, 143, .slice sa D.steps.length sk, D.steps⟩] [Rp (Shape.slice Shape.str) [.slice a2 ns4.length c3] ns4] w' ∧ i ≤ ns4.length ∧ DrS Dz nm V g n (ns4.drop i) D) (fun st_ => match st_ with | (i, D, sa, sk) => ns4.length - i) (0, D0, sa0, sk0) ⟨H, Nat.zero_le _, hnP⟩ (rfl) ?_
 rintro ⟨i, D, sa, sk⟩ w7 ⟨H, ⟨hi, hP0⟩⟩ hback6
 have hP : ∀ h : i < ns4.length, DrS Dz nm V g n (ns4[i] :: ns4.drop (i + 1)) D := fun h => by rwa [List.drop_eq_getElem_cons h] at hP0
 refine qR 3 [.c [1, 0, 1, 0, 0, 1, 0], .c [1, 0, 1, 0, 0, 2], .l [1, 0, 1, 0, 0], .b 0, .c [2]] [(0, .P jb 0), (1, .I (V.last : Int)), (16, .slice a2 ns4.length c3), (17, .I ((ns4.length : Nat) : Int)), (18, .I i), (19, .bool (decide (((i : Int) : Int) < ((ns4.length : Nat) : Int))))] ?_
 refine qD (((i : Int) : Int) < ((ns4.length : Nat) : Int)) (fun h8 => ?_) (fun h8 => ?_)
 ·
  have hP := hP (by omega)
  refine qR 4 [.c [1, 0, 1, 0, 0, 2, 0, 0, 0], .c [1, 0, 1, 0, 0, 2, 0, 0, 1], .b 1, .c [1, 0, 1, 0, 0, 3], .l [1, 0, 1, 0, 0], .b 0, .c [2]] [(0, .P jb 0), (1, .I (V.last : Int)), (16, .slice a2 ns4.length c3), (17, .I ((ns4.length : Nat) : Int)), (18, .I i)] ?_
  refine qG (sq 0 3) ?_
  have hx9 : i < ns4.length := by omega
  refine qX .seq 20 (sq 1 3) 189 9 (i : Int) Shape.str (ns4[i]) H 0 rfl i (by omega) (List.getElem?_eq_getElem hx9) ?_
  intro b10 o11 es12 hr13 H
  obtain ⟨rfl, hshr13⟩ := hr13
  refine qL .seq 21 (sq 2 3) 9 b10 o11 0 (.string (ns4[i])) (H.fc 0 rfl) ?_
  refine qF 1 [(0, .P jb 0), (1, .I (V.last : Int)), (6, .string (ns4[i])), (16, .slice a2 ns4.length c3), (17, .I ((ns4.length : Nat) : Int)), (18, .I i)] ?_
  refine qR 1 [.c [1, 0, 1, 0, 0, 2, 0, 0, 1, 0], .c [1, 0, 1, 0, 0, 2, 0, 0, 2], .b 1, .c [1, 0, 1, 0, 0, 3], .l [1, 0, 1, 0, 0], .b 0, .c [2]] [(0, .P jb 0), (1, .I (V.last : Int)), (6, .string (ns4[i])), (16, .slice a2 ns4.length c3), (17, .I ((ns4.length : Nat) : Int)), (18, .I i)] ?_
  refine qG (sq 0 8) ?_
  refine qP 2 (sq 2 8) [(0, .P jb 0), (1, .I (V.last : Int)), (6, .string (ns4[i])), (16, .slice a2 ns4.length c3), (17, .I ((ns4.length : Nat) : Int)), (18, .I i), (23, .P jb 0), (24, .string (ns4[i]))] ?_
  refine qK .seq (some 25) (sq 3 8) 106 #[.P jb 0, .string (ns4[i]), .string (⟨#[115]⟩ : ByteArray)] (numbered_spec (S := fun _ => True) (kd := kS) (H.viewM 0 rfl (by simp)) hP.ff hp (.inl rfl)) ?_
  rintro _ w14 hE15 rfl
  have H := H.ext hE15
  refine qF 5 [(0, .P jb 0), (1, .I (V.last : Int)), (6, .string (ns4[i])), (7, .I ((numB nm kS (ns4[i]) : Nat) : Int)), (8, .bool (decide (0 < numB nm kS (ns4[i])))), (16, .slice a2 ns4.length c3), (17, .I ((ns4.length : Nat) : Int)), (18, .I i)] ?_
  refine qR 1 [.c [1, 0, 1, 0, 0, 2, 0, 0, 2, 0], .c [1, 0, 1, 0, 0, 2, 0, 0, 3], .b 1, .c [1, 0, 1, 0, 0, 3], .l [1, 0, 1, 0, 0], .b 0, .c [2]] [(0, .P jb 0), (1, .I (V.last : Int)), (6, .string (ns4[i])), (7, .I ((numB nm kS (ns4[i]) : Nat) : Int)), (8, .bool (decide (0 < numB nm kS (ns4[i])))), (16, .slice a2 ns4.length c3), (17, .I ((ns4.length : Nat) : Int)), (18, .I i)] ?_
  refine qG (sq 0 8) ?_
  refine qP 2 (sq 2 8) [(0, .P jb 0), (1, .I (V.last : Int)), (6, .string (ns4[i])), (7, .I ((numB nm kS (ns4[i]) : Nat) : Int)), (8, .bool (decide (0 < numB nm kS (ns4[i])))), (16, .slice a2 ns4.length c3), (17, .I ((ns4.length : Nat) : Int)), (18, .I i), (29, .P jb 0), (30, .string (ns4[i]))] ?_
  refine qK .seq (some 31) (sq 3 8) 106 #[.P jb 0, .string (ns4[i]), .string (⟨#[99]⟩ : ByteArray)] (numbered_spec (S := fun _ => True) (kd := kC) (H.viewM 0 rfl (by simp)) hP.ff hp (.inr rfl)) ?_
  rintro _ w16 hE17 rfl
  have H := H.ext hE17
  refine qF 5 [(0, .P jb 0), (1, .I (V.last : Int)), (6, .string (ns4[i])), (7, .I ((numB nm kS (ns4[i]) : Nat) : Int)), (8, .bool (decide (0 < numB nm kS (ns4[i])))), (9, .I ((numB nm kC (ns4[i]) : Nat) : Int)), (10, .bool (decide (0 < numB nm kC (ns4[i])))), (16, .slice a2 ns4.length c3), (17, .I ((ns4.length : Nat) : Int)), (18, .I i)] ?_
  refine qR 1 [.c [1, 0, 1, 0, 0, 2, 0, 0, 3, 0], .c [1, 0, 1, 0, 0, 2, 0, 0, 4], .b 1, .c [1, 0, 1, 0, 0, 3], .l [1, 0, 1, 0, 0], .b 0, .c [2]] [(0, .P jb 0), (1, .I (V.last : Int)), (6, .string (ns4[i])), (7, .I ((numB nm kS (ns4[i]) : Nat) : Int)), (8, .bool (decide (0 < numB nm kS (ns4[i])))), (9, .I ((numB nm kC (ns4[i]) : Nat) : Int)), (10, .bool (decide (0 < numB nm kC (ns4[i])))), (16, .slice a2 ns4.length c3), (17, .I ((ns4.length : Nat) : Int)), (18, .I i)] ?_
  refine WK.join (fun b_ : Bool => b_ = decide ((0 < numB nm kS ns4[i] ∧ numB nm kS ns4[i] < V.last) ∨ (0 < numB nm kC ns4[i] ∧ numB nm kC ns4[i] < V.last) ∨ ns4[i].toList = (nm ++ (⟨#[46, 116]⟩ : ByteArray)).toList)) (fun b_ => [(0, .P jb 0), (1, .I (V.last : Int)), (6, .string (ns4[i])), (16, .slice a2 ns4.length c3), (17, .I ((ns4.length : Nat) : Int)), (18, .I i), (56, .bool b_)]) [Cq Tryz.prog 56 [1, 0, 1, 0, 0, 2, 0, 0, 4], .inBlock 1, Cq Tryz.prog 56 [1, 0, 1, 0, 0, 3], Lq Tryz.prog 56 [1, 0, 1, 0, 0], .inBlock 0, Cq Tryz.prog 56 [2]] (fun hJ18 => ?_) (fun bj19 hbj20 => ?_)
  ·
   refine qG (sq 0 23) ?_
   refine qP 2 (sq 2 23) [(0, .P jb 0), (1, .I (V.last : Int)), (6, .string (ns4[i])), (7, .I ((numB nm kS (ns4[i]) : Nat) : Int)), (9, .I ((numB nm kC (ns4[i]) : Nat) : Int)), (10, .bool (decide (0 < numB nm kC (ns4[i])))), (16, .slice a2 ns4.length c3), (17, .I ((ns4.length : Nat) : Int)), (18, .I i), (35, .bool (decide (0 < numB nm kS (ns4[i]))))] ?_
   refine tD (fun b_ => [(0, .P jb 0), (1, .I (V.last : Int)), (6, .string (ns4[i])), (7, .I ((numB nm kS (ns4[i]) : Nat) : Int)), (9, .I ((numB nm kC (ns4[i]) : Nat) : Int)), (10, .bool (decide (0 < numB nm kC (ns4[i])))), (16, .slice a2 ns4.length c3), (17, .I ((ns4.length : Nat) : Int)), (18, .I i), (35, .bool b_)]) (0 < numB nm kS (ns4[i])) (fun h21 => ?_) (fun h21 => ?_)
   ·
    refine qP 5 (sq 7 23) [(0, .P jb 0), (1, .I (V.last : Int)), (6, .string (ns4[i])), (9, .I ((numB nm kC (ns4[i]) : Nat) : Int)), (10, .bool (decide (0 < numB nm kC (ns4[i])))), (16, .slice a2 ns4.length c3), (17, .I ((ns4.length : Nat) : Int)), (18, .I i), (40, .bool (decide ((((numB nm kS (ns4[i]) : Nat) : Int) : Int) < (V.last : Int))))] ?_
    refine tD (fun b_ => [(0, .P jb 0), (1, .I (V.last : Int)), (6, .string (ns4[i])), (9, .I ((numB nm kC (ns4[i]) : Nat) : Int)), (10, .bool (decide (0 < numB nm kC (ns4[i])))), (16, .slice a2 ns4.length c3), (17, .I ((ns4.length : Nat) : Int)), (18, .I i), (40, .bool b_)]) ((((numB nm kS (ns4[i]) : Nat) : Int) : Int) < (V.last : Int)) (fun h22 => ?_) (fun h22 => ?_)
    ·
     refine qF 16 [(0, .P jb 0), (1, .I (V.last : Int)), (6, .string (ns4[i])), (16, .slice a2 ns4.length c3), (17, .I ((ns4.length : Nat) : Int)), (18, .I i), (56, .bool true)] ?_
     exact hJ18 true ((decide_eq_true (by first | exact .inl ⟨by omega, by omega⟩ | exact .inr (.inl ⟨by omega, by omega⟩))).symm)
    ·
     refine qP 2 (sq 9 23) [(0, .P jb 0), (1, .I (V.last : Int)), (6, .string (ns4[i])), (9, .I ((numB nm kC (ns4[i]) : Nat) : Int)), (16, .slice a2 ns4.length c3), (17, .I ((ns4.length : Nat) : Int)), (18, .I i), (40, .bool false), (42, .bool (decide (0 < numB nm kC (ns4[i]))))] ?_
     refine tD (fun b_ => [(0, .P jb 0), (1, .I (V.last : Int)), (6, .string (ns4[i])), (9, .I ((numB nm kC (ns4[i]) : Nat) : Int)), (16, .slice a2 ns4.length c3), (17, .I ((ns4.length : Nat) : Int)), (18, .I i), (40, .bool false), (42, .bool b_)]) (0 < numB nm kC (ns4[i])) (fun h23 => ?_) (fun h23 => ?_)
     ·
      refine qP 6 (sq 15 23) [(0, .P jb 0), (1, .I (V.last : Int)), (6, .string (ns4[i])), (16, .slice a2 ns4.length c3), (17, .I ((ns4.length : Nat) : Int)), (18, .I i), (48, .bool (decide ((((numB nm kC (ns4[i]) : Nat) : Int) : Int) < (V.last : Int))))] ?_
      refine tD (fun b_ => [(0, .P jb 0), (1, .I (V.last : Int)), (6, .string (ns4[i])), (16, .slice a2 ns4.length c3), (17, .I ((ns4.length : Nat) : Int)), (18, .I i), (48, .bool b_)]) ((((numB nm kC (ns4[i]) : Nat) : Int) : Int) < (V.last : Int)) (fun h24 => ?_) (fun h24 => ?_)
      ·
       refine qF 8 [(0, .P jb 0), (1, .I (V.last : Int)), (6, .string (ns4[i])), (16, .slice a2 ns4.length c3), (17, .I ((ns4.length : Nat) : Int)), (18, .I i), (56, .bool true)] ?_
       exact hJ18 true ((decide_eq_true (by first | exact .inl ⟨by omega, by omega⟩ | exact .inr (.inl ⟨by omega, by omega⟩))).symm)
      ·
       refine qP 4 (sq 19 23) [(0, .P jb 0), (1, .I (V.last : Int)), (6, .string (ns4[i])), (16, .slice a2 ns4.length c3), (17, .I ((ns4.length : Nat) : Int)), (18, .I i), (48, .bool false), (49, .string (ns4[i])), (52, .P jb 1)] ?_
       refine qL .seq 53 (sq 20 23) 9 jb 1 1 (.string nm) (H.cells 0 rfl) ?_
       refine RW.readS (κ := .seq) (d := some 54) (r := (sq 21 23)) (s := semV (Op.stringOp .add nm (⟨#[46, 116]⟩ : ByteArray))) (v := .string (nm ++ (⟨#[46, 116]⟩ : ByteArray))) (by as_aux_lemma => kernel_rfl) (fun w' _ => semV_run (run_string_add_sum w' _ _ (by omega))) ?_
       refine qF 2 [(0, .P jb 0), (1, .I (V.last : Int)), (6, .string (ns4[i])), (16, .slice a2 ns4.length c3), (17, .I ((ns4.length : Nat) : Int)), (18, .I i), (56, .bool ((ns4[i]).toList == (nm ++ (⟨#[46, 116]⟩ : ByteArray)).toList))] ?_
       exact hJ18 ((ns4[i]).toList == (nm ++ (⟨#[46, 116]⟩ : ByteArray)).toList) (by rw [Bool.eq_iff_iff, beq_iff_eq, decide_eq_true_iff]; exact ⟨fun h9 => .inr (.inr h9), fun h9 => by rcases h9 with h9 | h9 | h9 <;> first | exact h9 | exact absurd h9 (by omega)⟩)
     ·
      refine qP 10 (sq 19 23) [(0, .P jb 0), (1, .I (V.last : Int)), (6, .string (ns4[i])), (16, .slice a2 ns4.length c3), (17, .I ((ns4.length : Nat) : Int)), (18, .I i), (48, .bool false), (49, .string (ns4[i])), (52, .P jb 1)] ?_
      refine qL .seq 53 (sq 20 23) 9 jb 1 1 (.string nm) (H.cells 0 rfl) ?_
      refine RW.readS (κ := .seq) (d := some 54) (r := (sq 21 23)) (s := semV (Op.stringOp .add nm (⟨#[46, 116]⟩ : ByteArray))) (v := .string (nm ++ (⟨#[46, 116]⟩ : ByteArray))) (by as_aux_lemma => kernel_rfl) (fun w' _ => semV_run (run_string_add_sum w' _ _ (by omega))) ?_
      refine qF 2 [(0, .P jb 0), (1, .I (V.last : Int)), (6, .string (ns4[i])), (16, .slice a2 ns4.length c3), (17, .I ((ns4.length : Nat) : Int)), (18, .I i), (56, .bool ((ns4[i]).toList == (nm ++ (⟨#[46, 116]⟩ : ByteArray)).toList))] ?_
      exact hJ18 ((ns4[i]).toList == (nm ++ (⟨#[46, 116]⟩ : ByteArray)).toList) (by rw [Bool.eq_iff_iff, beq_iff_eq, decide_eq_true_iff]; exact ⟨fun h9 => .inr (.inr h9), fun h9 => by rcases h9 with h9 | h9 | h9 <;> first | exact h9 | exact absurd h9 (by omega)⟩)
   ·
    refine qP 7 (sq 9 23) [(0, .P jb 0), (1, .I (V.last : Int)), (6, .string (ns4[i])), (9, .I ((numB nm kC (ns4[i]) : Nat) : Int)), (16, .slice a2 ns4.length c3), (17, .I ((ns4.length : Nat) : Int)), (18, .I i), (40, .bool false), (42, .bool (decide (0 < numB nm kC (ns4[i]))))] ?_
    refine tD (fun b_ => [(0, .P jb 0), (1, .I (V.last : Int)), (6, .string (ns4[i])), (9, .I ((numB nm kC (ns4[i]) : Nat) : Int)), (16, .slice a2 ns4.length c3), (17, .I ((ns4.length : Nat) : Int)), (18, .I i), (40, .bool false), (42, .bool b_)]) (0 < numB nm kC (ns4[i])) (fun h25 => ?_) (fun h25 => ?_)
    ·
     refine qP 6 (sq 15 23) [(0, .P jb 0), (1, .I (V.last : Int)), (6, .string (ns4[i])), (16, .slice a2 ns4.length c3), (17, .I ((ns4.length : Nat) : Int)), (18, .I i), (48, .bool (decide ((((numB nm kC (ns4[i]) : Nat) : Int) : Int) < (V.last : Int))))] ?_
     refine tD (fun b_ => [(0, .P jb 0), (1, .I (V.last : Int)), (6, .string (ns4[i])), (16, .slice a2 ns4.length c3), (17, .I ((ns4.length : Nat) : Int)), (18, .I i), (48, .bool b_)]) ((((numB nm kC (ns4[i]) : Nat) : Int) : Int) < (V.last : Int)) (fun h26 => ?_) (fun h26 => ?_)
     ·
      refine qF 8 [(0, .P jb 0), (1, .I (V.last : Int)), (6, .string (ns4[i])), (16, .slice a2 ns4.length c3), (17, .I ((ns4.length : Nat) : Int)), (18, .I i), (56, .bool true)] ?_
      exact hJ18 true ((decide_eq_true (by first | exact .inl ⟨by omega, by omega⟩ | exact .inr (.inl ⟨by omega, by omega⟩))).symm)
     ·
      refine qP 4 (sq 19 23) [(0, .P jb 0), (1, .I (V.last : Int)), (6, .string (ns4[i])), (16, .slice a2 ns4.length c3), (17, .I ((ns4.length : Nat) : Int)), (18, .I i), (48, .bool false), (49, .string (ns4[i])), (52, .P jb 1)] ?_
      refine qL .seq 53 (sq 20 23) 9 jb 1 1 (.string nm) (H.cells 0 rfl) ?_
      refine RW.readS (κ := .seq) (d := some 54) (r := (sq 21 23)) (s := semV (Op.stringOp .add nm (⟨#[46, 116]⟩ : ByteArray))) (v := .string (nm ++ (⟨#[46, 116]⟩ : ByteArray))) (by as_aux_lemma => kernel_rfl) (fun w' _ => semV_run (run_string_add_sum w' _ _ (by omega))) ?_
      refine qF 2 [(0, .P jb 0), (1, .I (V.last : Int)), (6, .string (ns4[i])), (16, .slice a2 ns4.length c3), (17, .I ((ns4.length : Nat) : Int)), (18, .I i), (56, .bool ((ns4[i]).toList == (nm ++ (⟨#[46, 116]⟩ : ByteArray)).toList))] ?_
      exact hJ18 ((ns4[i]).toList == (nm ++ (⟨#[46, 116]⟩ : ByteArray)).toList) (by rw [Bool.eq_iff_iff, beq_iff_eq, decide_eq_true_iff]; exact ⟨fun h9 => .inr (.inr h9), fun h9 => by rcases h9 with h9 | h9 | h9 <;> first | exact h9 | exact absurd h9 (by omega)⟩)
    ·
     refine qP 10 (sq 19 23) [(0, .P jb 0), (1, .I (V.last : Int)), (6, .string (ns4[i])), (16, .slice a2 ns4.length c3), (17, .I ((ns4.length : Nat) : Int)), (18, .I i), (48, .bool false), (49, .string (ns4[i])), (52, .P jb 1)] ?_
     refine qL .seq 53 (sq 20 23) 9 jb 1 1 (.string nm) (H.cells 0 rfl) ?_
     refine RW.readS (κ := .seq) (d := some 54) (r := (sq 21 23)) (s := semV (Op.stringOp .add nm (⟨#[46, 116]⟩ : ByteArray))) (v := .string (nm ++ (⟨#[46, 116]⟩ : ByteArray))) (by as_aux_lemma => kernel_rfl) (fun w' _ => semV_run (run_string_add_sum w' _ _ (by omega))) ?_
     refine qF 2 [(0, .P jb 0), (1, .I (V.last : Int)), (6, .string (ns4[i])), (16, .slice a2 ns4.length c3), (17, .I ((ns4.length : Nat) : Int)), (18, .I i), (56, .bool ((ns4[i]).toList == (nm ++ (⟨#[46, 116]⟩ : ByteArray)).toList))] ?_
     exact hJ18 ((ns4[i]).toList == (nm ++ (⟨#[46, 116]⟩ : ByteArray)).toList) (by rw [Bool.eq_iff_iff, beq_iff_eq, decide_eq_true_iff]; exact ⟨fun h9 => .inr (.inr h9), fun h9 => by rcases h9 with h9 | h9 | h9 <;> first | exact h9 | exact absurd h9 (by omega)⟩)
  ·
   refine qC bj19 (fun h27 => ?_) (fun h27 => ?_)
   ·
    rw [hbj20] at h27
    replace h27 := of_decide_eq_true h27
    have hjk := junk_yes h27
    refine qR 1 [.c [1, 0, 1, 0, 0, 2, 0, 0, 4, 0, 0], .c [1, 0, 1, 0, 0, 2, 0, 0, 4, 0, 1], .b 1, .c [1, 0, 1, 0, 0, 3], .l [1, 0, 1, 0, 0], .b 0, .c [2]] [(0, .P jb 0), (1, .I (V.last : Int)), (6, .string (ns4[i])), (16, .slice a2 ns4.length c3), (17, .I ((ns4.length : Nat) : Int)), (18, .I i)] ?_
    refine qG (sq 0 7) ?_
    refine qP 3 (sq 3 7) [(0, .P jb 0), (1, .I (V.last : Int)), (6, .string (ns4[i])), (16, .slice a2 ns4.length c3), (17, .I ((ns4.length : Nat) : Int)), (18, .I i), (59, .P jb 0)] ?_
    refine qL .seq 60 (sq 4 7) 24 jb 0 0 (.P db 0) (H.cells 0 rfl) ?_
    refine qP 1 (sq 5 7) [(0, .P jb 0), (1, .I (V.last : Int)), (16, .slice a2 ns4.length c3), (17, .I ((ns4.length : Nat) : Int)), (18, .I i), (60, .P db 0), (61, .string (ns4[i]))] ?_
    have H := H.perms (M' := diskM db D sa sk ++ [(jb, .cells #[.P db 0, .string nm, x2, x3, x4, x5, x6, x7] 41 (0, 0))]) (W' := [⟨stepS, 143, .slice sa D.steps.length sk, D.steps⟩]) (List.perm_append_comm (l₁ := diskM db D sa sk) (l₂ := ([(jb, .cells #[.P db 0, .string nm, x2, x3, x4, x5, x6, x7] 41 (0, 0))] : Heap))) (List.Perm.refl _)
    refine RW.callS (d := some 62) (r := (sq 6 7)) (g := 113) (args := #[.P db 0, .string (ns4[i])]) (by as_aux_lemma => kernel_rfl) (dRemove (hP.al.rdy hP.di).di.ok (hP.al.rdy hP.di).st (hP.al.rdy hP.di).dead (by exact hP.sz) (hP.al.rdy hP.di).hl ((H.lend (M1 := diskM db D sa sk) (W1 := [⟨stepS, 143, .slice sa D.steps.length sk, D.steps⟩])).pick [] rfl)) ?_
    rintro _ w28 ⟨D29, sa30, sk31, ⟨e32, rfl, hR33⟩, H'⟩
    have H := H.back (M1 := diskM db D sa sk) (W1 := [⟨stepS, 143, .slice sa D.steps.length sk, D.steps⟩]) H'
    have H := H.perms (M' := ((jb, .cells #[.P db 0, .string nm, x2, x3, x4, x5, x6, x7] 41 (0, 0)) :: (diskM db D29 sa30 sk31))) (W' := [⟨stepS, 143, .slice sa30 D29.steps.length sk31, D29.steps⟩]) ((List.perm_append_comm (l₁ := diskM db D29 sa30 sk31) (l₂ := ([(jb, .cells #[.P db 0, .string nm, x2, x3, x4, x5, x6, x7] 41 (0, 0))] : Heap))).symm) (List.Perm.refl _)
    have H : Hp w S O ((jb, .cells #[.P db 0, .string nm, x2, x3, x4, x5, x6, x7] 41 (0, 0)) :: (diskM db D29 sa30 sk31)) [⟨stepS, 143, .slice sa30 D29.steps.length sk31, D29.steps⟩] [Fc b10 o11 [.string (ns4[i])], Rp (Shape.slice Shape.str) [.slice a2 ns4.length c3] ns4] _ := H
    have hR33 : RemoveR D (ns4[i]) e32 D29 := hR33
    rcases hP.rm hp hjk hR33 with ⟨rfl, hB35⟩ | ⟨rfl, hA34⟩
    ·
     refine qF 1 [(0, .P jb 0), (1, .I (V.last : Int)), (11, .I 70), (16, .slice a2 ns4.length c3), (17, .I ((ns4.length : Nat) : Int)), (18, .I i)] ?_
     refine qR 4 [.c [1, 0, 1, 0, 0, 2, 0, 0, 4, 0, 2, 0, 0], .c [1, 0, 1, 0, 0, 2, 0, 0, 4, 0, 2, 0, 1], .b 1, .c [1, 0, 1, 0, 0, 3], .l [1, 0, 1, 0, 0], .b 0, .c [2]] [(11, .I 70)] ?_
     refine qG (sq 0 3) ?_
     refine qP 1 (sq 1 3) [(65, .I 70)] ?_
     refine qK .seq (some 66) (sq 2 3) 110 #[.I 70] (told_spec (S := Av S w O (idsOf ((jb, .cells #[.P db 0, .string nm, x2, x3, x4, x5, x6, x7] 41 (0, 0)) :: (diskM db D29 sa30 sk31)) [⟨stepS, 143, .slice sa30 D29.steps.length sk31, D29.steps⟩]))) ?_
     rintro _ w36 - ⟨eb37, rfl, H'⟩
     have H := H.back (M1 := []) (W1 := []) H'
     have H : Hp w S O ((eb37, .cells #[.I 70] 204 (0, 0)) :: (jb, .cells #[.P db 0, .string nm, x2, x3, x4, x5, x6, x7] 41 (0, 0)) :: (diskM db D29 sa30 sk31)) [⟨stepS, 143, .slice sa30 D29.steps.length sk31, D29.steps⟩] [Fc b10 o11 [.string (ns4[i])], Rp (Shape.slice Shape.str) [.slice a2 ns4.length c3] ns4] _ := H
     refine qF 1 [(4, .iface 200 (.P eb37 0))] ?_
     refine qT (.iface 200 (.P eb37 0)) Tryz.func56 ?_
     have H := H.pick [] rfl
     exact ⟨_, rfl, .inr ⟨eb37, rfl, D29, sa30, sk31, hB35, H⟩⟩
    ·
     refine qF 1 [(0, .P jb 0), (1, .I (V.last : Int)), (11, .I 0), (16, .slice a2 ns4.length c3), (17, .I ((ns4.length : Nat) : Int)), (18, .I i)] ?_
     refine qR 5 [.c [1, 0, 1, 0, 0, 3], .l [1, 0, 1, 0, 0], .b 0, .c [2]] [(0, .P jb 0), (1, .I (V.last : Int)), (16, .slice a2 ns4.length c3), (17, .I ((ns4.length : Nat) : Int)), (18, .I i)] ?_
     refine qG (sq 0 2) ?_
     refine qI .seq 67 (sq 1 2) ((i : Int) + 1) ?_
     refine qF 1 [(0, .P jb 0), (1, .I (V.last : Int)), (16, .slice a2 ns4.length c3), (17, .I ((ns4.length : Nat) : Int)), (18, .I ((i : Int) + 1))] ?_
     have H := H.pick [1] rfl
     exact WK.back (hback6 (i + 1, D29, sa30, sk31) _ ⟨H, by omega, hA34⟩ (by first | omega | (simp only []; omega))) (by as_aux_lemma => kernel_rfl)
   ·
    rw [hbj20] at h27
    replace h27 := of_decide_eq_false h27
    have hjk := junk_no hp hP.ff h27
    refine qR 2 [.c [1, 0, 1, 0, 0, 3], .l [1, 0, 1, 0, 0], .b 0, .c [2]] [(0, .P jb 0), (1, .I (V.last : Int)), (16, .slice a2 ns4.length c3), (17, .I ((ns4.length : Nat) : Int)), (18, .I i)] ?_
    refine qG (sq 0 2) ?_
    refine qI .seq 67 (sq 1 2) ((i : Int) + 1) ?_
    refine qF 1 [(0, .P jb 0), (1, .I (V.last : Int)), (16, .slice a2 ns4.length c3), (17, .I ((ns4.length : Nat) : Int)), (18, .I ((i : Int) + 1))] ?_
    have H := H.pick [1] rfl
    exact WK.back (hback6 (i + 1, D, sa, sk) _ ⟨H, by omega, hP.skip hjk⟩ (by first | omega | (simp only []; omega))) (by as_aux_lemma => kernel_rfl)
 ·
  refine qR 3 [.c [3]] [(4, .nilIface)] ?_
  refine qT .nilIface Tryz.func56 ?_
  have H := H.pick [] rfl
  exact ⟨_, rfl, .inl ⟨rfl, D, sa, sk, by rwa [List.drop_eq_nil_of_le (by omega)] at hP0, H⟩⟩
end Go.Proofs.YtdnibpclkhenmaaGreatDoor
