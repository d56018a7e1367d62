import Derived.Test.YtdnibpclkhenmaaGreatDoorSJB
import Derived.Test.YtdnibpclkhenmaaGreatDoorSJ8
import Derived.Test.YtdnibpclkhenmaaGreatDoorSJ4
namespace Go.Proofs.YtdnibpclkhenmaaGreatDoor
open Go.BX
set_option maxHeartbeats 4000000 in
theorem jfound_spec {S : Nat → Prop} {w : World} {O : List Nat} {jb db : Nat} {nm : ByteArray} {D0 : DiskD} {sa0 : Option Addr} {sk0 : Nat} {V : VV} {G n : Nat} {P : Bs → List Bs → List Bs → Prop} (hp : PlainB nm) (hd : DI D0) (ha : Al D0 (n + 256)) (hpv : PV D0 nm V) (hjs : JS D0 nm G P) (hnl : D0.now.length ≤ 256) (H0 : Hp w S O ((jb, .cells #[.P db 0, .string nm, .slice none 0 0, .slice none 0 0, .I 0, .string (⟨#[]⟩ : ByteArray), .slice none 0 0, .bool true] 41 (0, 0)) :: diskM db D0 sa0 sk0) [⟨stepS, 143, .slice sa0 D0.steps.length sk0, D0.steps⟩] [Fz jQ] w) :
 Calls Tryz.prog 52 #[.P jb 0] w (Ret fun v w' => (v = .nilIface ∧ ∃ (D' : DiskD) (sa' : Option Addr) (sk' : Nat) (ab : Option Addr) (cb : Nat) (ar : Option Addr) (cr : Nat), LJ D' nm (fixV D0 V) none (gV V) ∧ DI D' ∧ Al D' n ∧ Stp nm D0 D' ∧ Cp 1 D0 D' ∧ Hp w S O ((jb, .cells #[.P db 0, .string nm, .slice ab V.B.length cb, .slice ar (recsV D0 V).length cr, .I ((gV V : Nat) : Int), .string (⟨#[]⟩ : ByteArray), .slice none 0 0, .bool true] 41 (0, 0)) :: diskM db D' sa' sk') [⟨SB, 23, .slice ar (recsV D0 V).length cr, recsV D0 V⟩, diskW D' sa' sk'] [Rp SB [.slice ab V.B.length cb] V.B] w') ∨ (∃ (eb : Nat) (x2 x3 x4 x5 x6 x7 : Value) (D' : DiskD) (sa' : Option Addr) (sk' : Nat), v = .iface 200 (.P eb 0) ∧ Dd D0 D' nm (max G (gV V)) (fun B lo hi => P B lo hi ∨ (B = V.B ∧ recsV D0 V <+: lo ∧ hi <+: recsV D0 V)) ∧ Hp w S O ((eb, .cells #[.I 70] 204 (0, 0)) :: (jb, .cells #[.P db 0, .string nm, x2, x3, x4, x5, x6, x7] 41 (0, 0)) :: diskM db D' sa' sk') [diskW D' sa' sk'] [] w')) := by
 obtain ⟨hbl, hbs⟩ := hpv.bds hd hp
 have hr0 := ha.rdy hd
 refine qS (fn := Tryz.f52) (n := 175) (σ := [(0, .P jb 0)]) Tryz.func52 ?_
 have H := H0
 refine qR 6 [.c [2, 0, 0], .c [2, 0, 1], .c [3]] [(0, .P jb 0), (3, .I 0)] ?_
 refine qG (sq 0 7) ?_
 refine qP 3 (sq 3 7) [(0, .P jb 0), (3, .I 0), (28, .P jb 0)] ?_
 refine qL .seq 29 (sq 4 7) 24 jb 0 0 (.P db 0) (H.cells 0 rfl) ?_
 have H := H.perms (M' := diskM db D0 sa0 sk0 ++ [(jb, .cells #[.P db 0, .string nm, .slice none 0 0, .slice none 0 0, .I 0, .string (⟨#[]⟩ : ByteArray), .slice none 0 0, .bool true] 41 (0, 0))]) (W' := [⟨stepS, 143, .slice sa0 D0.steps.length sk0, D0.steps⟩]) (List.perm_append_comm (l₁ := diskM db D0 sa0 sk0) (l₂ := ([(jb, .cells #[.P db 0, .string nm, .slice none 0 0, .slice none 0 0, .I 0, .string (⟨#[]⟩ : ByteArray), .slice none 0 0, .bool true] 41 (0, 0))] : Heap))) (List.Perm.refl _)
 refine RW.callS (d := some 30) (r := (sq 5 7)) (g := 105) (args := #[.P db 0]) (by as_aux_lemma => kernel_rfl) (dNames hr0.di hr0.dead (hnl) ((H.lend (M1 := diskM db D0 sa0 sk0) (W1 := [⟨stepS, 143, .slice sa0 D0.steps.length sk0, D0.steps⟩])).pick [] rfl)) ?_
 rintro _ w1 ⟨a2, c3, ns4, hn5, rfl, H'⟩
 have H := H.back (M1 := diskM db D0 sa0 sk0) (W1 := [⟨stepS, 143, .slice sa0 D0.steps.length sk0, D0.steps⟩]) H'
 have H := H.perms (M' := ((jb, .cells #[.P db 0, .string nm, .slice none 0 0, .slice none 0 0, .I 0, .string (⟨#[]⟩ : ByteArray), .slice none 0 0, .bool true] 41 (0, 0)) :: (diskM db D0 sa0 sk0))) (W' := [⟨Shape.str, 9, .slice a2 ns4.length c3, ns4⟩, ⟨stepS, 143, .slice sa0 D0.steps.length sk0, D0.steps⟩]) ((List.perm_append_comm (l₁ := diskM db D0 sa0 sk0) (l₂ := ([(jb, .cells #[.P db 0, .string nm, .slice none 0 0, .slice none 0 0, .I 0, .string (⟨#[]⟩ : ByteArray), .slice none 0 0, .bool true] 41 (0, 0))] : Heap))).symm) (List.Perm.refl _)
 have H : Hp w S O ((jb, .cells #[.P db 0, .string nm, .slice none 0 0, .slice none 0 0, .I 0, .string (⟨#[]⟩ : ByteArray), .slice none 0 0, .bool true] 41 (0, 0)) :: (diskM db D0 sa0 sk0)) [⟨Shape.str, 9, .slice a2 ns4.length c3, ns4⟩, ⟨stepS, 143, .slice sa0 D0.steps.length sk0, D0.steps⟩] [Fz jQ] _ := H
 have H : Hp w S O ((jb, .cells #[.P db 0, .string nm, .slice none 0 0, .slice none 0 0, .I 0, .string (⟨#[]⟩ : ByteArray), .slice none 0 0, .bool true] 41 (0, 0)) :: (diskM db D0 sa0 sk0)) [⟨stepS, 143, .slice sa0 D0.steps.length sk0, D0.steps⟩] [Rp (Shape.slice Shape.str) [.slice a2 ns4.length c3] ns4, Fz jQ] _ := H.freezeW 0 rfl
 have hnL : ns4.length ≤ 256 := by rw [hn5.length_eq, List.length_map]; exact hnl
 refine qF 2 [(0, .P jb 0), (3, .I 0), (30, .slice a2 ns4.length c3), (31, .I ((ns4.length : Nat) : Int)), (32, .I 0)] ?_
 refine qR 1 [.c [2, 0, 1, 0], .b 0, .c [3]] [(0, .P jb 0), (3, .I 0), (30, .slice a2 ns4.length c3), (31, .I ((ns4.length : Nat) : Int)), (32, .I 0)] ?_
 refine WK.loop (α := Nat × Nat) (b := cd Tryz.prog 52 [2, 0, 1, 0, 0]) (by as_aux_lemma => kernel_rfl) (fun st_ => match st_ with | (i, la) => [(0, .P jb 0), (3, .I la), (30, .slice a2 ns4.length c3), (31, .I ((ns4.length : Nat) : Int)), (32, .I i)]) (fun st_ w' => match st_ with | (i, la) => Hp w S O ((jb, .cells #[.P db 0, .string nm, .slice none 0 0, .slice none 0 0, .I 0, .string (⟨#[]⟩ : ByteArray), .slice none 0 0, .bool true] 41 (0, 0)) :: (diskM db D0 sa0 sk0)) [⟨stepS, 143, .slice sa0 D0.steps.length sk0, D0.steps⟩] [Rp (Shape.slice Shape.str) [.slice a2 ns4.length c3] ns4, Fz jQ] w' ∧ i ≤ ns4.length ∧ la = lastF nm (ns4.take i)) (fun st_ => match st_ with | (i, la) => ns4.length - i) (0, 0) ⟨H, Nat.zero_le _, rfl⟩ (rfl) ?_
 rintro ⟨i, la⟩ w7 ⟨H, ⟨hi, hla⟩⟩ hback6
 refine qR 3 [.c [2, 0, 1, 0, 0, 1, 0], .c [2, 0, 1, 0, 0, 2], .l [2, 0, 1, 0, 0], .b 0, .c [3]] [(0, .P jb 0), (3, .I la), (30, .slice a2 ns4.length c3), (31, .I ((ns4.length : Nat) : Int)), (32, .I i), (33, .bool (decide (((i : Int) : Int) < ((ns4.length : Nat) : Int))))] ?_
 refine qD (((i : Int) : Int) < ((ns4.length : Nat) : Int)) (fun h8 => ?_) (fun h8 => ?_)
 ·
  have hff := names_ff hd hn5 (show i < ns4.length by omega)
  have hls := lastF_snoc nm (ns4.take i) (ns4[i])
  rw [← snoc_take (show i < ns4.length by omega), ← hla] at hls
  refine qR 4 [.c [2, 0, 1, 0, 0, 2, 0, 0, 0], .c [2, 0, 1, 0, 0, 2, 0, 0, 1], .b 1, .c [2, 0, 1, 0, 0, 3], .l [2, 0, 1, 0, 0], .b 0, .c [3]] [(0, .P jb 0), (3, .I la), (30, .slice a2 ns4.length c3), (31, .I ((ns4.length : Nat) : Int)), (32, .I i)] ?_
  refine qG (sq 0 3) ?_
  have hx9 : i < ns4.length := by omega
  refine qX .seq 34 (sq 1 3) 189 9 (i : Int) Shape.str (ns4[i]) H 0 rfl i (by omega) (List.getElem?_eq_getElem hx9) ?_
  intro b10 o11 es12 hr13 H
  obtain ⟨rfl, hshr13⟩ := hr13
  refine qL .seq 35 (sq 2 3) 9 b10 o11 0 (.string (ns4[i])) (H.fc 0 rfl) ?_
  refine qF 1 [(0, .P jb 0), (3, .I la), (5, .string (ns4[i])), (30, .slice a2 ns4.length c3), (31, .I ((ns4.length : Nat) : Int)), (32, .I i)] ?_
  refine qR 1 [.c [2, 0, 1, 0, 0, 2, 0, 0, 1, 0], .c [2, 0, 1, 0, 0, 2, 0, 0, 2], .b 1, .c [2, 0, 1, 0, 0, 3], .l [2, 0, 1, 0, 0], .b 0, .c [3]] [(0, .P jb 0), (3, .I la), (5, .string (ns4[i])), (30, .slice a2 ns4.length c3), (31, .I ((ns4.length : Nat) : Int)), (32, .I i)] ?_
  refine qG (sq 0 8) ?_
  refine qP 2 (sq 2 8) [(0, .P jb 0), (3, .I la), (30, .slice a2 ns4.length c3), (31, .I ((ns4.length : Nat) : Int)), (32, .I i), (37, .P jb 0), (38, .string (ns4[i]))] ?_
  refine qK .seq (some 39) (sq 3 8) 106 #[.P jb 0, .string (ns4[i]), .string (⟨#[99]⟩ : ByteArray)] (numbered_spec (S := fun _ => True) (kd := kC) (H.viewM 0 rfl (by simp)) hff hp (.inr rfl)) ?_
  rintro _ w14 hE15 rfl
  have H := H.ext hE15
  refine qF 5 [(0, .P jb 0), (3, .I la), (6, .I ((numB nm kC (ns4[i]) : Nat) : Int)), (7, .bool (decide (0 < numB nm kC (ns4[i])))), (30, .slice a2 ns4.length c3), (31, .I ((ns4.length : Nat) : Int)), (32, .I i)] ?_
  refine qR 2 [.c [2, 0, 1, 0, 0, 2, 0, 0, 3], .b 1, .c [2, 0, 1, 0, 0, 3], .l [2, 0, 1, 0, 0], .b 0, .c [3]] [(0, .P jb 0), (3, .I la), (6, .I ((numB nm kC (ns4[i]) : Nat) : Int)), (30, .slice a2 ns4.length c3), (31, .I ((ns4.length : Nat) : Int)), (32, .I i), (42, .bool (decide (0 < numB nm kC (ns4[i]))))] ?_
  refine qD (0 < numB nm kC (ns4[i])) (fun h16 => ?_) (fun h16 => ?_)
  ·
   refine qG (sq 0 4) ?_
   refine qP 2 (sq 2 4) [(0, .P jb 0), (3, .I la), (30, .slice a2 ns4.length c3), (31, .I ((ns4.length : Nat) : Int)), (32, .I i), (43, .I la), (44, .I ((numB nm kC (ns4[i]) : Nat) : Int))] ?_
   refine RW.pv (κ := .seq) (d := some 45) (r := (sq 3 4)) (v' := .I ((max la (numB nm kC ns4[i]) : Nat) : Int)) (v := .I (if ((numB nm kC (ns4[i]) : Nat) : Int) > (la : Int) then ((numB nm kC (ns4[i]) : Nat) : Int) else (la : Int))) (by as_aux_lemma => kernel_rfl) (by split <;> (first | rfl | exact congrArg (Value.int .i64) (by omega))) ?_
   refine qF 1 [(0, .P jb 0), (3, .I ((max la (numB nm kC ns4[i]) : Nat) : Int)), (30, .slice a2 ns4.length c3), (31, .I ((ns4.length : Nat) : Int)), (32, .I i)] ?_
   refine qR 1 [.c [2, 0, 1, 0, 0, 3], .l [2, 0, 1, 0, 0], .b 0, .c [3]] [(0, .P jb 0), (3, .I ((max la (numB nm kC ns4[i]) : Nat) : Int)), (30, .slice a2 ns4.length c3), (31, .I ((ns4.length : Nat) : Int)), (32, .I i)] ?_
   refine qG (sq 0 2) ?_
   refine qI .seq 46 (sq 1 2) ((i : Int) + 1) ?_
   refine qF 1 [(0, .P jb 0), (3, .I ((max la (numB nm kC ns4[i]) : Nat) : Int)), (30, .slice a2 ns4.length c3), (31, .I ((ns4.length : Nat) : Int)), (32, .I ((i : Int) + 1))] ?_
   have H := H.pick [1, 2] rfl
   exact WK.back (hback6 (i + 1, max la (numB nm kC ns4[i])) _ ⟨H, by omega, by rw [hls] <;> omega⟩ (by first | omega | (simp only []; omega))) (by as_aux_lemma => kernel_rfl)
  ·
   refine qR 2 [.c [2, 0, 1, 0, 0, 3], .l [2, 0, 1, 0, 0], .b 0, .c [3]] [(0, .P jb 0), (3, .I la), (30, .slice a2 ns4.length c3), (31, .I ((ns4.length : Nat) : Int)), (32, .I i)] ?_
   refine qG (sq 0 2) ?_
   refine qI .seq 46 (sq 1 2) ((i : Int) + 1) ?_
   refine qF 1 [(0, .P jb 0), (3, .I la), (30, .slice a2 ns4.length c3), (31, .I ((ns4.length : Nat) : Int)), (32, .I ((i : Int) + 1))] ?_
   have H := H.pick [1, 2] rfl
   exact WK.back (hback6 (i + 1, la) _ ⟨H, by omega, by rw [hls] <;> omega⟩ (by first | omega | (simp only []; omega))) (by as_aux_lemma => kernel_rfl)
 ·
  have hlz : la = V.last := by rw [hla, List.take_of_length_le (by omega)]; exact lastF_eq hd hp hpv.nowN (mem_names hd hn5)
  subst hlz
  refine qR 4 [.c [3, 0, 1], .c [4]] [(0, .P jb 0), (3, .I ((V.last : Nat) : Int)), (48, .bool (decide ((((V.last : Nat) : Int) : Int) > 0)))] ?_
  refine WK.joinV (α := Option Addr × Nat) (fun x_ w_ => match x_ with | (ab, cb) => Hp w S O ((jb, .cells #[.P db 0, .string nm, .slice ab V.B.length cb, .slice none 0 0, .I 0, .string (⟨#[]⟩ : ByteArray), .slice none 0 0, .bool true] 41 (0, 0)) :: (diskM db D0 sa0 sk0)) [⟨stepS, 143, .slice sa0 D0.steps.length sk0, D0.steps⟩] [Rp SB [.slice ab V.B.length cb] V.B, Fz jQ] w_ ∧ True) (fun x_ => match x_ with | (ab, cb) => [(0, .P jb 0), (3, .I ((V.last : Nat) : Int))]) [Cq Tryz.prog 52 [4]] (fun hJ17 => ?_) ?_
  ·
   refine qD ((((V.last : Nat) : Int) : Int) > 0) (fun h19 => ?_) (fun h19 => ?_)
   ·
    refine qR 1 [.c [3, 0, 1, 0, 0], .c [3, 0, 1, 0, 1], .c [4]] [(0, .P jb 0), (3, .I ((V.last : Nat) : Int))] ?_
    refine qG (sq 0 10) ?_
    refine qP 3 (sq 3 10) [(0, .P jb 0), (3, .I ((V.last : Nat) : Int)), (50, .P jb 0), (51, .P jb 0), (52, .I ((V.last : Nat) : Int))] ?_
    have hq22 := H.viewF 1 rfl
    refine qK .seq (some 53) (sq 4 10) 58 #[.P jb 0, .string (⟨#[99]⟩ : ByteArray), .I ((V.last : Nat) : Int)] (jfile_spec (S := fun _ => True) (kd := kC) (n := V.last) (H.viewM 0 rfl (by simp)) hq22 (by omega) hp (.inr rfl)) ?_
    rintro _ w20 hE21 rfl
    have H := H.ext hE21
    obtain ⟨fC, szC, hfC, hfn, hfz, hfz6, hfB, hfl⟩ := hpv.rdC hd (by omega)
    have H := H.perms (M' := ((jb, .cells #[.P db 0, .string nm, .slice none 0 0, .slice none 0 0, .I 0, .string (⟨#[]⟩ : ByteArray), .slice none 0 0, .bool true] 41 (0, 0)) :: diskM db D0 sa0 sk0) ++ []) (W' := [⟨stepS, 143, .slice sa0 D0.steps.length sk0, D0.steps⟩]) ((List.perm_append_comm (l₁ := diskM db D0 sa0 sk0) (l₂ := ([] : Heap))).cons _) (List.Perm.refl _)
    refine RW.callS (d := some 54) (r := (sq 5 10)) (g := 107) (args := #[.P jb 0, .string (cN nm V.last)]) (by as_aux_lemma => kernel_rfl) (jread_spec (f := fC) (sz := szC) hr0 hfC hfn hfz hfz6 ((H.lend (M1 := ((jb, .cells #[.P db 0, .string nm, .slice none 0 0, .slice none 0 0, .I 0, .string (⟨#[]⟩ : ByteArray), .slice none 0 0, .bool true] 41 (0, 0)) :: diskM db D0 sa0 sk0)) (W1 := [⟨stepS, 143, .slice sa0 D0.steps.length sk0, D0.steps⟩])).pick [] rfl)) ?_
    rintro _ w23 ⟨a24, c25, rfl, H'⟩
    have H := H.back (M1 := ((jb, .cells #[.P db 0, .string nm, .slice none 0 0, .slice none 0 0, .I 0, .string (⟨#[]⟩ : ByteArray), .slice none 0 0, .bool true] 41 (0, 0)) :: diskM db D0 sa0 sk0)) (W1 := [⟨stepS, 143, .slice sa0 D0.steps.length sk0, D0.steps⟩]) H'
    have H := H.perms (M' := ((jb, .cells #[.P db 0, .string nm, .slice none 0 0, .slice none 0 0, .I 0, .string (⟨#[]⟩ : ByteArray), .slice none 0 0, .bool true] 41 (0, 0)) :: (diskM db D0 sa0 sk0))) (W' := [⟨Sb, 5, .slice a24 ((readG (gX fC.now) szC 0).length) c25, (readG (gX fC.now) szC 0)⟩, ⟨stepS, 143, .slice sa0 D0.steps.length sk0, D0.steps⟩]) ((List.perm_append_comm (l₁ := ([] : Heap)) (l₂ := diskM db D0 sa0 sk0)).cons _) (List.Perm.refl _)
    have H : Hp w S O ((jb, .cells #[.P db 0, .string nm, .slice none 0 0, .slice none 0 0, .I 0, .string (⟨#[]⟩ : ByteArray), .slice none 0 0, .bool true] 41 (0, 0)) :: (diskM db D0 sa0 sk0)) [⟨Sb, 5, .slice a24 ((readG (gX fC.now) szC 0).length) c25, (readG (gX fC.now) szC 0)⟩, ⟨stepS, 143, .slice sa0 D0.steps.length sk0, D0.steps⟩] [Rp (Shape.slice Shape.str) [.slice a2 ns4.length c3] ns4, Fz jQ] _ := H
    have H : Hp w S O ((jb, .cells #[.P db 0, .string nm, .slice none 0 0, .slice none 0 0, .I 0, .string (⟨#[]⟩ : ByteArray), .slice none 0 0, .bool true] 41 (0, 0)) :: (diskM db D0 sa0 sk0)) [⟨stepS, 143, .slice sa0 D0.steps.length sk0, D0.steps⟩] [Rp SB [.slice a24 ((readG (gX fC.now) szC 0).length) c25] (readG (gX fC.now) szC 0), Rp (Shape.slice Shape.str) [.slice a2 ns4.length c3] ns4, Fz jQ] _ := H.freezeW 0 rfl
    refine qF 5 [(0, .P jb 0), (3, .I ((V.last : Nat) : Int)), (8, .slice a24 ((readG (gX fC.now) szC 0).length) c25), (9, .nilIface)] ?_
    refine qR 6 [.c [3, 0, 1, 0, 2, 0], .c [3, 0, 1, 0, 3], .c [4]] [(0, .P jb 0), (3, .I ((V.last : Nat) : Int)), (8, .slice a24 ((readG (gX fC.now) szC 0).length) c25)] ?_
    refine qG (sq 0 9) ?_
    refine qP 1 (sq 1 9) [(0, .P jb 0), (3, .I ((V.last : Nat) : Int)), (61, .slice a24 ((readG (gX fC.now) szC 0).length) c25)] ?_
    refine qK .seq (some 62) (sq 2 9) 108 #[.slice a24 ((readG (gX fC.now) szC 0).length) c25, .I 0] (wNext_spec (xs := (readG (gX fC.now) szC 0)) (H.rp 0 rfl) 0 (by omega) (by omega) (H.fact 2 rfl)) ?_
    rintro _ w26 hE30 (⟨e27, he28, rfl, ho29⟩ | ⟨a31, c32, b33, ho29, rfl, hr34⟩)
    ·
     have H := H.ext hE30
     refine qF 7 [(0, .P jb 0), (3, .I ((V.last : Nat) : Int)), (10, .slice none 0 0), (12, .I e27)] ?_
     refine qR 2 [.c [3, 0, 1, 0, 4], .c [4]] [(0, .P jb 0), (3, .I ((V.last : Nat) : Int)), (10, .slice none 0 0), (67, .bool (e27 == 0))] ?_
     refine qE e27 0 (fun h35 => ?_) (fun h35 => ?_)
     ·
      exact absurd h35 he28
     ·
      refine qR 1 [.c [4]] [(0, .P jb 0), (3, .I ((V.last : Nat) : Int))] ?_
      have hB9 : V.B = [] := by rw [← hfB]; have h9 := ho29; rw [List.drop_zero] at h9; rw [h9]; rfl
      have H := H.add (F := Rp SB [.slice none 0 0] ([] : List (BitVec 8))) Shape.slice_nil
      have H : Hp w S O ((jb, .cells #[.P db 0, .string nm, .slice none V.B.length 0, .slice none 0 0, .I 0, .string (⟨#[]⟩ : ByteArray), .slice none 0 0, .bool true] 41 (0, 0)) :: (diskM db D0 sa0 sk0)) [⟨stepS, 143, .slice sa0 D0.steps.length sk0, D0.steps⟩] [Rp SB [.slice none V.B.length 0] V.B, Rp SB [.slice a24 ((readG (gX fC.now) szC 0).length) c25] (readG (gX fC.now) szC 0), Rp (Shape.slice Shape.str) [.slice a2 ns4.length c3] ns4, Fz jQ] w26 := by rw [hB9]; exact H
      have H := H.pick [0, 3] rfl
      exact hJ17 (none, 0) _ ⟨H, trivial⟩
    ·
     have H := H.addN hE30 (F := Rp SB [.slice a31 b33.length c32] b33) hr34
     have hbl := nextF_len ho29
     rw [List.length_drop] at hbl
     refine qF 7 [(0, .P jb 0), (3, .I ((V.last : Nat) : Int)), (10, .slice a31 b33.length c32), (12, .I 0)] ?_
     refine qR 3 [.c [3, 0, 1, 0, 4, 0], .c [4]] [(0, .P jb 0), (3, .I ((V.last : Nat) : Int)), (10, .slice a31 b33.length c32)] ?_
     refine qG (sq 0 5) ?_
     refine qP 4 (sq 4 5) [(0, .P jb 0), (3, .I ((V.last : Nat) : Int)), (69, .slice a31 b33.length c32), (71, .P jb 2)] ?_
     refine qW 23 jb 2 (sq 5 5) (.slice a31 b33.length c32) ((jb, .cells #[.P db 0, .string nm, .slice a31 b33.length c32, .slice none 0 0, .I 0, .string (⟨#[]⟩ : ByteArray), .slice none 0 0, .bool true] 41 (0, 0)) :: (diskM db D0 sa0 sk0)) H 0 rfl rfl ?_
     intro w36 H
     refine qF 0 [(0, .P jb 0), (3, .I ((V.last : Nat) : Int))] ?_
     have hB9 : b33 = V.B := by rw [← hfB]; have h9 := ho29; rw [List.drop_zero] at h9; rw [h9]; rfl
     subst hB9
     have H : Hp w S O ((jb, .cells #[.P db 0, .string nm, .slice a31 V.B.length c32, .slice none 0 0, .I 0, .string (⟨#[]⟩ : ByteArray), .slice none 0 0, .bool true] 41 (0, 0)) :: (diskM db D0 sa0 sk0)) [⟨stepS, 143, .slice sa0 D0.steps.length sk0, D0.steps⟩] [Rp SB [.slice a31 V.B.length c32] V.B, Rp SB [.slice a24 ((readG (gX fC.now) szC 0).length) c25] (readG (gX fC.now) szC 0), Rp (Shape.slice Shape.str) [.slice a2 ns4.length c3] ns4, Fz jQ] _ := H
     have H := H.pick [0, 3] rfl
     exact hJ17 (a31, c32) _ ⟨H, trivial⟩
   ·
    refine qR 1 [.c [4]] [(0, .P jb 0), (3, .I ((V.last : Nat) : Int))] ?_
    have hB9 : V.B = [] := hpv.wf.b0 (by omega)
    have H := H.add (F := Rp SB [.slice none 0 0] ([] : List (BitVec 8))) Shape.slice_nil
    have H : Hp w S O ((jb, .cells #[.P db 0, .string nm, .slice none V.B.length 0, .slice none 0 0, .I 0, .string (⟨#[]⟩ : ByteArray), .slice none 0 0, .bool true] 41 (0, 0)) :: (diskM db D0 sa0 sk0)) [⟨stepS, 143, .slice sa0 D0.steps.length sk0, D0.steps⟩] [Rp SB [.slice none V.B.length 0] V.B, Rp (Shape.slice Shape.str) [.slice a2 ns4.length c3] ns4, Fz jQ] w7 := by rw [hB9]; exact H
    have H := H.pick [0, 2] rfl
    exact hJ17 (none, 0) _ ⟨H, trivial⟩
  ·
   rintro ⟨ab, cb⟩ w18 ⟨H, -⟩
   refine qR 4 [.c [5, 0, 0], .c [5, 0, 1], .c [6]] [(0, .P jb 0), (3, .I ((V.last : Nat) : Int)), (13, .slice none 0 0)] ?_
   refine qG (sq 0 7) ?_
   refine qP 3 (sq 3 7) [(0, .P jb 0), (3, .I ((V.last : Nat) : Int)), (13, .slice none 0 0), (74, .P jb 0)] ?_
   refine qL .seq 75 (sq 4 7) 24 jb 0 0 (.P db 0) (H.cells 0 rfl) ?_
   have H := H.perms (M' := diskM db D0 sa0 sk0 ++ [(jb, .cells #[.P db 0, .string nm, .slice ab V.B.length cb, .slice none 0 0, .I 0, .string (⟨#[]⟩ : ByteArray), .slice none 0 0, .bool true] 41 (0, 0))]) (W' := [⟨stepS, 143, .slice sa0 D0.steps.length sk0, D0.steps⟩]) (List.perm_append_comm (l₁ := diskM db D0 sa0 sk0) (l₂ := ([(jb, .cells #[.P db 0, .string nm, .slice ab V.B.length cb, .slice none 0 0, .I 0, .string (⟨#[]⟩ : ByteArray), .slice none 0 0, .bool true] 41 (0, 0))] : Heap))) (List.Perm.refl _)
   refine RW.callS (d := some 76) (r := (sq 5 7)) (g := 105) (args := #[.P db 0]) (by as_aux_lemma => kernel_rfl) (dNames hr0.di hr0.dead (hnl) ((H.lend (M1 := diskM db D0 sa0 sk0) (W1 := [⟨stepS, 143, .slice sa0 D0.steps.length sk0, D0.steps⟩])).pick [] rfl)) ?_
   rintro _ w37 ⟨a38, c39, ns40, hn41, rfl, H'⟩
   have H := H.back (M1 := diskM db D0 sa0 sk0) (W1 := [⟨stepS, 143, .slice sa0 D0.steps.length sk0, D0.steps⟩]) H'
   have H := H.perms (M' := ((jb, .cells #[.P db 0, .string nm, .slice ab V.B.length cb, .slice none 0 0, .I 0, .string (⟨#[]⟩ : ByteArray), .slice none 0 0, .bool true] 41 (0, 0)) :: (diskM db D0 sa0 sk0))) (W' := [⟨Shape.str, 9, .slice a38 ns40.length c39, ns40⟩, ⟨stepS, 143, .slice sa0 D0.steps.length sk0, D0.steps⟩]) ((List.perm_append_comm (l₁ := diskM db D0 sa0 sk0) (l₂ := ([(jb, .cells #[.P db 0, .string nm, .slice ab V.B.length cb, .slice none 0 0, .I 0, .string (⟨#[]⟩ : ByteArray), .slice none 0 0, .bool true] 41 (0, 0))] : Heap))).symm) (List.Perm.refl _)
   have H : Hp w S O ((jb, .cells #[.P db 0, .string nm, .slice ab V.B.length cb, .slice none 0 0, .I 0, .string (⟨#[]⟩ : ByteArray), .slice none 0 0, .bool true] 41 (0, 0)) :: (diskM db D0 sa0 sk0)) [⟨Shape.str, 9, .slice a38 ns40.length c39, ns40⟩, ⟨stepS, 143, .slice sa0 D0.steps.length sk0, D0.steps⟩] [Rp SB [.slice ab V.B.length cb] V.B, Fz jQ] _ := H
   have H : Hp w S O ((jb, .cells #[.P db 0, .string nm, .slice ab V.B.length cb, .slice none 0 0, .I 0, .string (⟨#[]⟩ : ByteArray), .slice none 0 0, .bool true] 41 (0, 0)) :: (diskM db D0 sa0 sk0)) [⟨stepS, 143, .slice sa0 D0.steps.length sk0, D0.steps⟩] [Rp (Shape.slice Shape.str) [.slice a38 ns40.length c39] ns40, Rp SB [.slice ab V.B.length cb] V.B, Fz jQ] _ := H.freezeW 0 rfl
   have hnL : ns40.length ≤ 256 := by rw [hn41.length_eq, List.length_map]; exact hnl
   refine qF 2 [(0, .P jb 0), (3, .I ((V.last : Nat) : Int)), (13, .slice none 0 0), (76, .slice a38 ns40.length c39), (77, .I ((ns40.length : Nat) : Int)), (78, .I 0)] ?_
   refine qR 1 [.c [5, 0, 1, 0], .b 2, .c [6]] [(0, .P jb 0), (3, .I ((V.last : Nat) : Int)), (13, .slice none 0 0), (76, .slice a38 ns40.length c39), (77, .I ((ns40.length : Nat) : Int)), (78, .I 0)] ?_
   have H := H.ownNil (Shape.int .i64) 3
   have H := H.drop (M' := ((jb, .cells #[.P db 0, .string nm, .slice ab V.B.length cb, .slice none 0 0, .I 0, .string (⟨#[]⟩ : ByteArray), .slice none 0 0, .bool true] 41 (0, 0)) :: (diskM db D0 sa0 sk0))) (W' := [⟨Shape.int .i64, 3, .slice none ((([] : List Nat).map fun n : Nat => (n : Int)).length) 0, (([] : List Nat).map fun n : Nat => (n : Int))⟩, ⟨stepS, 143, .slice sa0 D0.steps.length sk0, D0.steps⟩]) (by repeat (first | exact List.Sublist.refl _ | exact List.nil_sublist _ | apply List.Sublist.cons_cons | apply List.Sublist.cons)) (by repeat (first | exact List.Sublist.refl _ | exact List.nil_sublist _ | apply List.Sublist.cons_cons | apply List.Sublist.cons))
   refine WK.loop (α := Nat × List Nat × Option Addr × Nat) (b := cd Tryz.prog 52 [5, 0, 1, 0, 0]) (by as_aux_lemma => kernel_rfl) (fun st_ => match st_ with | (i, sn, aS, cS) => [(0, .P jb 0), (3, .I ((V.last : Nat) : Int)), (13, .slice aS ((sn.map fun n : Nat => (n : Int)).length) cS), (76, .slice a38 ns40.length c39), (77, .I ((ns40.length : Nat) : Int)), (78, .I i)]) (fun st_ w' => match st_ with | (i, sn, aS, cS) => Hp w S O ((jb, .cells #[.P db 0, .string nm, .slice ab V.B.length cb, .slice none 0 0, .I 0, .string (⟨#[]⟩ : ByteArray), .slice none 0 0, .bool true] 41 (0, 0)) :: (diskM db D0 sa0 sk0)) [⟨Shape.int .i64, 3, .slice aS ((sn.map fun n : Nat => (n : Int)).length) cS, (sn.map fun n : Nat => (n : Int))⟩, ⟨stepS, 143, .slice sa0 D0.steps.length sk0, D0.steps⟩] [Rp (Shape.slice Shape.str) [.slice a38 ns40.length c39] ns40, Rp SB [.slice ab V.B.length cb] V.B, Fz jQ] w' ∧ i ≤ ns40.length ∧ sn = segF nm V.last (ns40.take i)) (fun st_ => match st_ with | (i, sn, aS, cS) => ns40.length - i) (0, ([] : List Nat), none, 0) ⟨H, Nat.zero_le _, rfl⟩ (rfl) ?_
   rintro ⟨i, sn, aS, cS⟩ w43 ⟨H, ⟨hi, hsn⟩⟩ hback42
   refine qR 3 [.c [5, 0, 1, 0, 0, 1, 0], .c [5, 0, 1, 0, 0, 2], .l [5, 0, 1, 0, 0], .b 2, .c [6]] [(0, .P jb 0), (3, .I ((V.last : Nat) : Int)), (13, .slice aS ((sn.map fun n : Nat => (n : Int)).length) cS), (76, .slice a38 ns40.length c39), (77, .I ((ns40.length : Nat) : Int)), (78, .I i), (79, .bool (decide (((i : Int) : Int) < ((ns40.length : Nat) : Int))))] ?_
   refine qD (((i : Int) : Int) < ((ns40.length : Nat) : Int)) (fun h44 => ?_) (fun h44 => ?_)
   ·
    have hff := names_ff hd hn41 (show i < ns40.length by omega)
    have hls := segF_snoc nm V.last (ns40.take i) (ns40[i])
    rw [← snoc_take (show i < ns40.length by omega), ← hsn] at hls
    have hnb := numB_le (kd := kS) hp (.inl rfl) hff
    have hsnl : sn.length ≤ 256 := by rw [hsn]; exact Nat.le_trans (segF_len ..) (by rw [List.length_take]; omega)
    refine qR 4 [.c [5, 0, 1, 0, 0, 2, 0, 0, 0], .c [5, 0, 1, 0, 0, 2, 0, 0, 1], .b 3, .c [5, 0, 1, 0, 0, 3], .l [5, 0, 1, 0, 0], .b 2, .c [6]] [(0, .P jb 0), (3, .I ((V.last : Nat) : Int)), (13, .slice aS ((sn.map fun n : Nat => (n : Int)).length) cS), (76, .slice a38 ns40.length c39), (77, .I ((ns40.length : Nat) : Int)), (78, .I i)] ?_
    refine qG (sq 0 3) ?_
    have hx45 : i < ns40.length := by omega
    refine qX .seq 80 (sq 1 3) 189 9 (i : Int) Shape.str (ns40[i]) H 0 rfl i (by omega) (List.getElem?_eq_getElem hx45) ?_
    intro b46 o47 es48 hr49 H
    obtain ⟨rfl, hshr49⟩ := hr49
    refine qL .seq 81 (sq 2 3) 9 b46 o47 0 (.string (ns40[i])) (H.fc 0 rfl) ?_
    refine qF 1 [(0, .P jb 0), (3, .I ((V.last : Nat) : Int)), (13, .slice aS ((sn.map fun n : Nat => (n : Int)).length) cS), (15, .string (ns40[i])), (76, .slice a38 ns40.length c39), (77, .I ((ns40.length : Nat) : Int)), (78, .I i)] ?_
    refine qR 1 [.c [5, 0, 1, 0, 0, 2, 0, 0, 1, 0], .c [5, 0, 1, 0, 0, 2, 0, 0, 2], .b 3, .c [5, 0, 1, 0, 0, 3], .l [5, 0, 1, 0, 0], .b 2, .c [6]] [(0, .P jb 0), (3, .I ((V.last : Nat) : Int)), (13, .slice aS ((sn.map fun n : Nat => (n : Int)).length) cS), (15, .string (ns40[i])), (76, .slice a38 ns40.length c39), (77, .I ((ns40.length : Nat) : Int)), (78, .I i)] ?_
    refine qG (sq 0 8) ?_
    refine qP 2 (sq 2 8) [(0, .P jb 0), (3, .I ((V.last : Nat) : Int)), (13, .slice aS ((sn.map fun n : Nat => (n : Int)).length) cS), (76, .slice a38 ns40.length c39), (77, .I ((ns40.length : Nat) : Int)), (78, .I i), (83, .P jb 0), (84, .string (ns40[i]))] ?_
    refine qK .seq (some 85) (sq 3 8) 106 #[.P jb 0, .string (ns40[i]), .string (⟨#[115]⟩ : ByteArray)] (numbered_spec (S := fun _ => True) (kd := kS) (H.viewM 0 rfl (by simp)) hff hp (.inl rfl)) ?_
    rintro _ w50 hE51 rfl
    have H := H.ext hE51
    refine qF 5 [(0, .P jb 0), (3, .I ((V.last : Nat) : Int)), (13, .slice aS ((sn.map fun n : Nat => (n : Int)).length) cS), (16, .I ((numB nm kS (ns40[i]) : Nat) : Int)), (17, .bool (decide (0 < numB nm kS (ns40[i])))), (76, .slice a38 ns40.length c39), (77, .I ((ns40.length : Nat) : Int)), (78, .I i)] ?_
    refine qR 1 [.c [5, 0, 1, 0, 0, 2, 0, 0, 2, 0], .c [5, 0, 1, 0, 0, 2, 0, 0, 3], .b 3, .c [5, 0, 1, 0, 0, 3], .l [5, 0, 1, 0, 0], .b 2, .c [6]] [(0, .P jb 0), (3, .I ((V.last : Nat) : Int)), (13, .slice aS ((sn.map fun n : Nat => (n : Int)).length) cS), (16, .I ((numB nm kS (ns40[i]) : Nat) : Int)), (17, .bool (decide (0 < numB nm kS (ns40[i])))), (76, .slice a38 ns40.length c39), (77, .I ((ns40.length : Nat) : Int)), (78, .I i)] ?_
    refine qG (sq 0 6) ?_
    refine qP 2 (sq 2 6) [(0, .P jb 0), (3, .I ((V.last : Nat) : Int)), (13, .slice aS ((sn.map fun n : Nat => (n : Int)).length) cS), (16, .I ((numB nm kS (ns40[i]) : Nat) : Int)), (76, .slice a38 ns40.length c39), (77, .I ((ns40.length : Nat) : Int)), (78, .I i), (89, .bool (decide (0 < numB nm kS (ns40[i]))))] ?_
    refine tD (fun b_ => [(0, .P jb 0), (3, .I ((V.last : Nat) : Int)), (13, .slice aS ((sn.map fun n : Nat => (n : Int)).length) cS), (16, .I ((numB nm kS (ns40[i]) : Nat) : Int)), (76, .slice a38 ns40.length c39), (77, .I ((ns40.length : Nat) : Int)), (78, .I i), (89, .bool b_)]) (0 < numB nm kS (ns40[i])) (fun h52 => ?_) (fun h52 => ?_)
    ·
     refine qF 4 [(0, .P jb 0), (3, .I ((V.last : Nat) : Int)), (13, .slice aS ((sn.map fun n : Nat => (n : Int)).length) cS), (16, .I ((numB nm kS (ns40[i]) : Nat) : Int)), (76, .slice a38 ns40.length c39), (77, .I ((ns40.length : Nat) : Int)), (78, .I i), (93, .bool (decide ((((numB nm kS (ns40[i]) : Nat) : Int) : Int) > ((V.last : Nat) : Int))))] ?_
     refine qD ((((numB nm kS (ns40[i]) : Nat) : Int) : Int) > ((V.last : Nat) : Int)) (fun h53 => ?_) (fun h53 => ?_)
     ·
      refine qG (sq 0 5) ?_
      refine qP 2 (sq 2 5) [(0, .P jb 0), (3, .I ((V.last : Nat) : Int)), (13, .slice aS ((sn.map fun n : Nat => (n : Int)).length) cS), (76, .slice a38 ns40.length c39), (77, .I ((ns40.length : Nat) : Int)), (78, .I i), (94, .slice aS ((sn.map fun n : Nat => (n : Int)).length) cS), (95, .I ((numB nm kS (ns40[i]) : Nat) : Int))] ?_
      refine RW.new (κ := .seq) (d := some 96) (r := (sq 3 5)) (o := .cells #[.I ((numB nm kS (ns40[i]) : Nat) : Int)] 3 (0, 0)) (v := fun b => .slice (some ⟨b, 0, none⟩) 1 1) (fun b => by as_aux_lemma => kernel_rfl) (nofun) H ?_
      intro b54 w55 H
      have H := H.freeze 0 rfl (Shape.int .i64) ([((numB nm kS (ns40[i]) : Nat) : Int)] : List Int) 1 (by simp [maxLen]) (by first | exact Nat.le_refl _ | simp) (EsP.cons (c := [.I ((numB nm kS (ns40[i]) : Nat) : Int)]) i64a EsP.nil)
      have H : Hp w S O ((jb, .cells #[.P db 0, .string nm, .slice ab V.B.length cb, .slice none 0 0, .I 0, .string (⟨#[]⟩ : ByteArray), .slice none 0 0, .bool true] 41 (0, 0)) :: (diskM db D0 sa0 sk0)) [⟨Shape.int .i64, 3, .slice aS ((sn.map fun n : Nat => (n : Int)).length) cS, (sn.map fun n : Nat => (n : Int))⟩, ⟨stepS, 143, .slice sa0 D0.steps.length sk0, D0.steps⟩] [Rp (Shape.slice (Shape.int .i64)) [.slice (some ⟨b54, 0, none⟩) 1 1] ([((numB nm kS (ns40[i]) : Nat) : Int)] : List Int), Fc b46 o47 [.string (ns40[i])], Rp (Shape.slice Shape.str) [.slice a38 ns40.length c39] ns40, Rp SB [.slice ab V.B.length cb] V.B, Fz jQ] _ := H
      refine RW.appendW (d := some 97) (r := (sq 4 5)) (T := 59) (ty := 59) (e := 3) (m := 1) (by_ := 8) (v := .slice aS ((sn.map fun n : Nat => (n : Int)).length) cS) (a2 := (some ⟨b54, 0, none⟩)) (l2 := 1) (c2 := 1) (zs := ((sn ++ [numB nm kS ns40[i]]).map fun n : Nat => (n : Int))) (by as_aux_lemma => kernel_rfl) (by as_aux_lemma => kernel_rfl) rfl H 0 rfl 0 rfl (by rw [List.map_append]; rfl) (by rw [List.length_map, List.length_append]; simp only [List.length_cons, List.length_nil]; omega) ?_
      intro a56 c57 w59 H hc58
      have H : Hp w S O ((jb, .cells #[.P db 0, .string nm, .slice ab V.B.length cb, .slice none 0 0, .I 0, .string (⟨#[]⟩ : ByteArray), .slice none 0 0, .bool true] 41 (0, 0)) :: (diskM db D0 sa0 sk0)) [⟨Shape.int .i64, 3, .slice a56 (((sn ++ [numB nm kS ns40[i]]).map fun n : Nat => (n : Int)).length) c57, ((sn ++ [numB nm kS ns40[i]]).map fun n : Nat => (n : Int))⟩, ⟨stepS, 143, .slice sa0 D0.steps.length sk0, D0.steps⟩] [Rp (Shape.slice (Shape.int .i64)) [.slice (some ⟨b54, 0, none⟩) 1 1] ([((numB nm kS (ns40[i]) : Nat) : Int)] : List Int), Fc b46 o47 [.string (ns40[i])], Rp (Shape.slice Shape.str) [.slice a38 ns40.length c39] ns40, Rp SB [.slice ab V.B.length cb] V.B, Fz jQ] _ := H
      refine qF 1 [(0, .P jb 0), (3, .I ((V.last : Nat) : Int)), (13, .slice a56 (((sn ++ [numB nm kS ns40[i]]).map fun n : Nat => (n : Int)).length) c57), (76, .slice a38 ns40.length c39), (77, .I ((ns40.length : Nat) : Int)), (78, .I i)] ?_
      refine qR 1 [.c [5, 0, 1, 0, 0, 3], .l [5, 0, 1, 0, 0], .b 2, .c [6]] [(0, .P jb 0), (3, .I ((V.last : Nat) : Int)), (13, .slice a56 (((sn ++ [numB nm kS ns40[i]]).map fun n : Nat => (n : Int)).length) c57), (76, .slice a38 ns40.length c39), (77, .I ((ns40.length : Nat) : Int)), (78, .I i)] ?_
      refine qG (sq 0 2) ?_
      refine qI .seq 98 (sq 1 2) ((i : Int) + 1) ?_
      refine qF 1 [(0, .P jb 0), (3, .I ((V.last : Nat) : Int)), (13, .slice a56 (((sn ++ [numB nm kS ns40[i]]).map fun n : Nat => (n : Int)).length) c57), (76, .slice a38 ns40.length c39), (77, .I ((ns40.length : Nat) : Int)), (78, .I ((i : Int) + 1))] ?_
      have hq9 := hls.symm
      first | rw [if_pos (by omega)] at hq9 | rw [if_neg (by omega), List.append_nil] at hq9
      have H := H.pick [2, 3, 4] rfl
      exact WK.back (hback42 (i + 1, (sn ++ [numB nm kS ns40[i]]), a56, c57) _ ⟨H, by omega, hq9⟩ (by first | omega | (simp only []; omega))) (by as_aux_lemma => kernel_rfl)
     ·
      refine qR 2 [.c [5, 0, 1, 0, 0, 3], .l [5, 0, 1, 0, 0], .b 2, .c [6]] [(0, .P jb 0), (3, .I ((V.last : Nat) : Int)), (13, .slice aS ((sn.map fun n : Nat => (n : Int)).length) cS), (76, .slice a38 ns40.length c39), (77, .I ((ns40.length : Nat) : Int)), (78, .I i)] ?_
      refine qG (sq 0 2) ?_
      refine qI .seq 98 (sq 1 2) ((i : Int) + 1) ?_
      refine qF 1 [(0, .P jb 0), (3, .I ((V.last : Nat) : Int)), (13, .slice aS ((sn.map fun n : Nat => (n : Int)).length) cS), (76, .slice a38 ns40.length c39), (77, .I ((ns40.length : Nat) : Int)), (78, .I ((i : Int) + 1))] ?_
      have hq9 := hls.symm
      first | rw [if_pos (by omega)] at hq9 | rw [if_neg (by omega), List.append_nil] at hq9
      have H := H.pick [1, 2, 3] rfl
      exact WK.back (hback42 (i + 1, sn, aS, cS) _ ⟨H, by omega, hq9⟩ (by first | omega | (simp only []; omega))) (by as_aux_lemma => kernel_rfl)
    ·
     refine qF 4 [(0, .P jb 0), (3, .I ((V.last : Nat) : Int)), (13, .slice aS ((sn.map fun n : Nat => (n : Int)).length) cS), (16, .I ((numB nm kS (ns40[i]) : Nat) : Int)), (76, .slice a38 ns40.length c39), (77, .I ((ns40.length : Nat) : Int)), (78, .I i), (93, .bool false)] ?_
     refine qR 3 [.c [5, 0, 1, 0, 0, 3], .l [5, 0, 1, 0, 0], .b 2, .c [6]] [(0, .P jb 0), (3, .I ((V.last : Nat) : Int)), (13, .slice aS ((sn.map fun n : Nat => (n : Int)).length) cS), (76, .slice a38 ns40.length c39), (77, .I ((ns40.length : Nat) : Int)), (78, .I i)] ?_
     refine qG (sq 0 2) ?_
     refine qI .seq 98 (sq 1 2) ((i : Int) + 1) ?_
     refine qF 1 [(0, .P jb 0), (3, .I ((V.last : Nat) : Int)), (13, .slice aS ((sn.map fun n : Nat => (n : Int)).length) cS), (76, .slice a38 ns40.length c39), (77, .I ((ns40.length : Nat) : Int)), (78, .I ((i : Int) + 1))] ?_
     have hq9 := hls.symm
     first | rw [if_pos (by omega)] at hq9 | rw [if_neg (by omega), List.append_nil] at hq9
     have H := H.pick [1, 2, 3] rfl
     exact WK.back (hback42 (i + 1, sn, aS, cS) _ ⟨H, by omega, hq9⟩ (by first | omega | (simp only []; omega))) (by as_aux_lemma => kernel_rfl)
   ·
    have hsp : sn.Perm (V.segs.map (·.n)) := by rw [hsn, List.take_of_length_le (by omega)]; exact segF_perm hd hp hpv.wf hpv.nowN (names_nd hd hn41) (mem_names hd hn41)
    have hsn6 : sn.length ≤ 256 := by rw [hsn]; exact Nat.le_trans (segF_len ..) (by rw [List.length_take]; omega)
    have hsl : sn.length = V.segs.length := by rw [hsp.length_eq, List.length_map]
    have hml9 : (sn.map fun n : Nat => (n : Int)).length = V.segs.length := by rw [List.length_map, hsl]
    refine qR 2 [.c [6, 0], .c [7]] [(0, .P jb 0), (3, .I ((V.last : Nat) : Int)), (13, .slice aS ((sn.map fun n : Nat => (n : Int)).length) cS)] ?_
    refine qG (sq 0 5) ?_
    refine qP 4 (sq 4 5) [(0, .P jb 0), (3, .I ((V.last : Nat) : Int)), (13, .slice aS ((sn.map fun n : Nat => (n : Int)).length) cS), (100, .I ((V.last : Nat) : Int)), (102, .P jb 4)] ?_
    refine qW 3 jb 4 (sq 5 5) (.I ((V.last : Nat) : Int)) ((jb, .cells #[.P db 0, .string nm, .slice ab V.B.length cb, .slice none 0 0, .I ((V.last : Nat) : Int), .string (⟨#[]⟩ : ByteArray), .slice none 0 0, .bool true] 41 (0, 0)) :: (diskM db D0 sa0 sk0)) H 0 rfl rfl ?_
    intro w60 H
    refine qF 0 [(0, .P jb 0), (3, .I ((V.last : Nat) : Int)), (13, .slice aS ((sn.map fun n : Nat => (n : Int)).length) cS)] ?_
    refine qR 4 [.c [7, 0, 1, 0], .b 4, .c [8]] [(0, .P jb 0), (3, .I ((V.last : Nat) : Int)), (13, .slice aS ((sn.map fun n : Nat => (n : Int)).length) cS), (104, .I (((sn.map fun n : Nat => (n : Int)).length : Nat) : Int)), (105, .I 0)] ?_
    have H := H.ownNil SB 23
    have H := H.drop (M' := ((jb, .cells #[.P db 0, .string nm, .slice ab V.B.length cb, .slice none ([] : List (List (BitVec 8))).length 0, .I (V.last : Int), .string (⟨#[]⟩ : ByteArray), .slice none 0 0, .bool true] 41 (0, 0)) :: (diskM db D0 sa0 sk0))) (W' := [⟨SB, 23, .slice none ([] : List (List (BitVec 8))).length 0, ([] : List (List (BitVec 8)))⟩, ⟨Shape.int .i64, 3, .slice aS ((sn.map fun n : Nat => (n : Int)).length) cS, (sn.map fun n : Nat => (n : Int))⟩, ⟨stepS, 143, .slice sa0 D0.steps.length sk0, D0.steps⟩]) (by repeat (first | exact List.Sublist.refl _ | exact List.nil_sublist _ | apply List.Sublist.cons_cons | apply List.Sublist.cons)) (by repeat (first | exact List.Sublist.refl _ | exact List.nil_sublist _ | apply List.Sublist.cons_cons | apply List.Sublist.cons))
    refine WK.loop (α := Nat × DiskD × Option Addr × Nat × Nat × List (List (BitVec 8)) × Option Addr × Nat) (b := cd Tryz.prog 52 [7, 0, 1, 0, 0]) (by as_aux_lemma => kernel_rfl) (fun st_ => match st_ with | (m, D, sa, sk, gr, rs, aR, cR) => [(0, .P jb 0), (3, .I ((V.last : Nat) : Int)), (13, .slice aS ((sn.map fun n : Nat => (n : Int)).length) cS), (104, .I (((sn.map fun n : Nat => (n : Int)).length : Nat) : Int)), (105, .I m)]) (fun st_ w' => match st_ with | (m, D, sa, sk, gr, rs, aR, cR) => Hp w S O ((jb, .cells #[.P db 0, .string nm, .slice ab V.B.length cb, .slice aR rs.length cR, .I gr, .string (⟨#[]⟩ : ByteArray), .slice none 0 0, .bool true] 41 (0, 0)) :: (diskM db D sa sk)) [⟨SB, 23, .slice aR rs.length cR, rs⟩, ⟨Shape.int .i64, 3, .slice aS ((sn.map fun n : Nat => (n : Int)).length) cS, (sn.map fun n : Nat => (n : Int))⟩, ⟨stepS, 143, .slice sa D.steps.length sk, D.steps⟩] [Rp (Shape.slice Shape.str) [.slice a38 ns40.length c39] ns40, Rp SB [.slice ab V.B.length cb] V.B, Fz jQ] w' ∧ m ≤ V.segs.length ∧ FdS D0 nm V G P (n + 256) m D ∧ gr = gAt V m ∧ rs = ((V.segs.take m).flatMap fun s => allW (strm D0 s.p)) ∧ rs.length ≤ 100000000 * m) (fun st_ => match st_ with | (m, D, sa, sk, gr, rs, aR, cR) => V.segs.length - m) (0, D0, sa0, sk0, V.last, ([] : List (List (BitVec 8))), none, 0) ⟨H, Nat.zero_le _, FdS.start hd ha hpv hjs, rfl, rfl, Nat.le_refl _⟩ (rfl) ?_
    rintro ⟨m, D, sa, sk, gr, rs, aR, cR⟩ w62 ⟨H, ⟨hm, hP, hgr, hrs, hrl⟩⟩ hback61
    refine qR 3 [.c [7, 0, 1, 0, 0, 1, 0], .c [7, 0, 1, 0, 0, 2], .l [7, 0, 1, 0, 0], .b 4, .c [8]] [(0, .P jb 0), (3, .I ((V.last : Nat) : Int)), (13, .slice aS ((sn.map fun n : Nat => (n : Int)).length) cS), (104, .I (((sn.map fun n : Nat => (n : Int)).length : Nat) : Int)), (105, .I m), (106, .bool (decide (((m : Int) : Int) < (((sn.map fun n : Nat => (n : Int)).length : Nat) : Int))))] ?_
    refine qD (((m : Int) : Int) < (((sn.map fun n : Nat => (n : Int)).length : Nat) : Int)) (fun h63 => ?_) (fun h63 => ?_)
    ·
     obtain ⟨s9, hs9⟩ : ∃ s, V.segs[m]? = some s := ⟨_, List.getElem?_eq_getElem (by omega)⟩
     have hs6 := hbs s9 (List.mem_of_getElem? hs9)
     refine qR 9 [.c [7, 0, 1, 0, 0, 2, 0, 0, 1, 0, 1, 0], .b 6, .c [7, 0, 1, 0, 0, 2, 0, 0, 2], .b 5, .c [7, 0, 1, 0, 0, 3], .l [7, 0, 1, 0, 0], .b 4, .c [8]] [(0, .P jb 0), (3, .I ((V.last : Nat) : Int)), (13, .slice aS ((sn.map fun n : Nat => (n : Int)).length) cS), (18, .I 0), (104, .I (((sn.map fun n : Nat => (n : Int)).length : Nat) : Int)), (105, .I m), (107, .slice aS ((sn.map fun n : Nat => (n : Int)).length) cS), (108, .I (((sn.map fun n : Nat => (n : Int)).length : Nat) : Int)), (109, .I 0)] ?_
     refine WK.loop (α := Nat × Nat) (b := cd Tryz.prog 52 [7, 0, 1, 0, 0, 2, 0, 0, 1, 0, 1, 0, 0]) (by as_aux_lemma => kernel_rfl) (fun st_ => match st_ with | (k, le) => [(0, .P jb 0), (3, .I ((V.last : Nat) : Int)), (13, .slice aS ((sn.map fun n : Nat => (n : Int)).length) cS), (18, .I le), (104, .I (((sn.map fun n : Nat => (n : Int)).length : Nat) : Int)), (105, .I m), (107, .slice aS ((sn.map fun n : Nat => (n : Int)).length) cS), (108, .I (((sn.map fun n : Nat => (n : Int)).length : Nat) : Int)), (109, .I k)]) (fun st_ w' => match st_ with | (k, le) => Hp w S O ((jb, .cells #[.P db 0, .string nm, .slice ab V.B.length cb, .slice aR rs.length cR, .I gr, .string (⟨#[]⟩ : ByteArray), .slice none 0 0, .bool true] 41 (0, 0)) :: (diskM db D sa sk)) [⟨SB, 23, .slice aR rs.length cR, rs⟩, ⟨Shape.int .i64, 3, .slice aS ((sn.map fun n : Nat => (n : Int)).length) cS, (sn.map fun n : Nat => (n : Int))⟩, ⟨stepS, 143, .slice sa D.steps.length sk, D.steps⟩] [Rp (Shape.slice Shape.str) [.slice a38 ns40.length c39] ns40, Rp SB [.slice ab V.B.length cb] V.B, Fz jQ] w' ∧ k ≤ sn.length ∧ le = leastF gr (sn.take k)) (fun st_ => match st_ with | (k, le) => sn.length - k) (0, 0) ⟨H, Nat.zero_le _, rfl⟩ (rfl) ?_
     rintro ⟨k, le⟩ w65 ⟨H, ⟨hk, hlf⟩⟩ hback64
     refine qR 3 [.c [7, 0, 1, 0, 0, 2, 0, 0, 1, 0, 1, 0, 0, 1, 0], .c [7, 0, 1, 0, 0, 2, 0, 0, 1, 0, 1, 0, 0, 2], .l [7, 0, 1, 0, 0, 2, 0, 0, 1, 0, 1, 0, 0], .b 6, .c [7, 0, 1, 0, 0, 2, 0, 0, 2], .b 5, .c [7, 0, 1, 0, 0, 3], .l [7, 0, 1, 0, 0], .b 4, .c [8]] [(0, .P jb 0), (3, .I ((V.last : Nat) : Int)), (13, .slice aS ((sn.map fun n : Nat => (n : Int)).length) cS), (18, .I le), (104, .I (((sn.map fun n : Nat => (n : Int)).length : Nat) : Int)), (105, .I m), (107, .slice aS ((sn.map fun n : Nat => (n : Int)).length) cS), (108, .I (((sn.map fun n : Nat => (n : Int)).length : Nat) : Int)), (109, .I k), (110, .bool (decide (((k : Int) : Int) < (((sn.map fun n : Nat => (n : Int)).length : Nat) : Int))))] ?_
     refine qD (((k : Int) : Int) < (((sn.map fun n : Nat => (n : Int)).length : Nat) : Int)) (fun h66 => ?_) (fun h66 => ?_)
     ·
      refine qR 4 [.c [7, 0, 1, 0, 0, 2, 0, 0, 1, 0, 1, 0, 0, 2, 0, 0, 0], .c [7, 0, 1, 0, 0, 2, 0, 0, 1, 0, 1, 0, 0, 2, 0, 0, 1], .b 7, .c [7, 0, 1, 0, 0, 2, 0, 0, 1, 0, 1, 0, 0, 3], .l [7, 0, 1, 0, 0, 2, 0, 0, 1, 0, 1, 0, 0], .b 6, .c [7, 0, 1, 0, 0, 2, 0, 0, 2], .b 5, .c [7, 0, 1, 0, 0, 3], .l [7, 0, 1, 0, 0], .b 4, .c [8]] [(0, .P jb 0), (3, .I ((V.last : Nat) : Int)), (13, .slice aS ((sn.map fun n : Nat => (n : Int)).length) cS), (18, .I le), (104, .I (((sn.map fun n : Nat => (n : Int)).length : Nat) : Int)), (105, .I m), (107, .slice aS ((sn.map fun n : Nat => (n : Int)).length) cS), (108, .I (((sn.map fun n : Nat => (n : Int)).length : Nat) : Int)), (109, .I k)] ?_
      refine qG (sq 0 3) ?_
      have H := H.frontW 1 (W' := [⟨Shape.int .i64, 3, .slice aS ((sn.map fun n : Nat => (n : Int)).length) cS, (sn.map fun n : Nat => (n : Int))⟩, ⟨SB, 23, .slice aR rs.length cR, rs⟩, ⟨stepS, 143, .slice sa D.steps.length sk, D.steps⟩]) rfl
      have hn68 : (sn.map fun n : Nat => (n : Int)).length = (sn.map fun n : Nat => (n : Int)).length := rfl
      have hx67 : k < (sn.map fun n : Nat => (n : Int)).length := by rw [List.length_map]; omega
      refine RW.indexW (κ := .seq) (d := some 111) (r := (sq 1 3)) (T := 59) (e := 3) (m := 1) (ik := .i64) (ix := (k : Int)) (sh := (Shape.int .i64)) (xs := (sn.map fun n : Nat => (n : Int))) (a := aS) (len := (sn.map fun n : Nat => (n : Int)).length) (cap := cS) (by as_aux_lemma => kernel_rfl) (by as_aux_lemma => kernel_rfl) rfl H k (by omega) hx67 hn68 ?_
      intro b69 es70 ha71 hcell72 hr73
      rw [List.getElem_map _] at hr73
      have hb74 := Shape.i64_bd hr73
      obtain ⟨rfl, -⟩ := hr73
      refine qL .seq 112 (sq 2 3) 3 b69 (k * 1) 0 (.I ((sn[k] : Nat) : Int)) hcell72 ?_
      refine qF 1 [(0, .P jb 0), (3, .I ((V.last : Nat) : Int)), (13, .slice aS ((sn.map fun n : Nat => (n : Int)).length) cS), (18, .I le), (20, .I ((sn[k] : Nat) : Int)), (104, .I (((sn.map fun n : Nat => (n : Int)).length : Nat) : Int)), (105, .I m), (107, .slice aS ((sn.map fun n : Nat => (n : Int)).length) cS), (108, .I (((sn.map fun n : Nat => (n : Int)).length : Nat) : Int)), (109, .I k)] ?_
      refine qR 1 [.c [7, 0, 1, 0, 0, 2, 0, 0, 1, 0, 1, 0, 0, 2, 0, 0, 1, 0], .c [7, 0, 1, 0, 0, 2, 0, 0, 1, 0, 1, 0, 0, 2, 0, 0, 2], .b 7, .c [7, 0, 1, 0, 0, 2, 0, 0, 1, 0, 1, 0, 0, 3], .l [7, 0, 1, 0, 0, 2, 0, 0, 1, 0, 1, 0, 0], .b 6, .c [7, 0, 1, 0, 0, 2, 0, 0, 2], .b 5, .c [7, 0, 1, 0, 0, 3], .l [7, 0, 1, 0, 0], .b 4, .c [8]] [(0, .P jb 0), (3, .I ((V.last : Nat) : Int)), (13, .slice aS ((sn.map fun n : Nat => (n : Int)).length) cS), (18, .I le), (20, .I ((sn[k] : Nat) : Int)), (104, .I (((sn.map fun n : Nat => (n : Int)).length : Nat) : Int)), (105, .I m), (107, .slice aS ((sn.map fun n : Nat => (n : Int)).length) cS), (108, .I (((sn.map fun n : Nat => (n : Int)).length : Nat) : Int)), (109, .I k)] ?_
      refine WK.join (fun b_ : Bool => b_ = decide ((((sn[k] : Nat) : Int) > (gr : Int)) ∧ ((le : Int) = 0 ∨ ((sn[k] : Nat) : Int) < (le : Int)))) (fun b_ => [(0, .P jb 0), (3, .I ((V.last : Nat) : Int)), (13, .slice aS ((sn.map fun n : Nat => (n : Int)).length) cS), (18, .I le), (20, .I ((sn[k] : Nat) : Int)), (104, .I (((sn.map fun n : Nat => (n : Int)).length : Nat) : Int)), (105, .I m), (107, .slice aS ((sn.map fun n : Nat => (n : Int)).length) cS), (108, .I (((sn.map fun n : Nat => (n : Int)).length : Nat) : Int)), (109, .I k), (127, .bool b_)]) [Cq Tryz.prog 52 [7, 0, 1, 0, 0, 2, 0, 0, 1, 0, 1, 0, 0, 2, 0, 0, 2], .inBlock 7, Cq Tryz.prog 52 [7, 0, 1, 0, 0, 2, 0, 0, 1, 0, 1, 0, 0, 3], Lq Tryz.prog 52 [7, 0, 1, 0, 0, 2, 0, 0, 1, 0, 1, 0, 0], .inBlock 6, Cq Tryz.prog 52 [7, 0, 1, 0, 0, 2, 0, 0, 2], .inBlock 5, Cq Tryz.prog 52 [7, 0, 1, 0, 0, 3], Lq Tryz.prog 52 [7, 0, 1, 0, 0], .inBlock 4, Cq Tryz.prog 52 [8]] (fun hJ75 => ?_) (fun bj76 hbj77 => ?_)
      ·
       refine qG (sq 0 15) ?_
       refine qP 4 (sq 4 15) [(0, .P jb 0), (3, .I ((V.last : Nat) : Int)), (13, .slice aS ((sn.map fun n : Nat => (n : Int)).length) cS), (18, .I le), (20, .I ((sn[k] : Nat) : Int)), (104, .I (((sn.map fun n : Nat => (n : Int)).length : Nat) : Int)), (105, .I m), (107, .slice aS ((sn.map fun n : Nat => (n : Int)).length) cS), (108, .I (((sn.map fun n : Nat => (n : Int)).length : Nat) : Int)), (109, .I k), (113, .I ((sn[k] : Nat) : Int)), (116, .P jb 4)] ?_
       refine qL .seq 117 (sq 5 15) 3 jb 4 4 (.I gr) (H.cells 0 rfl) ?_
       refine qP 2 (sq 7 15) [(0, .P jb 0), (3, .I ((V.last : Nat) : Int)), (13, .slice aS ((sn.map fun n : Nat => (n : Int)).length) cS), (18, .I le), (20, .I ((sn[k] : Nat) : Int)), (104, .I (((sn.map fun n : Nat => (n : Int)).length : Nat) : Int)), (105, .I m), (107, .slice aS ((sn.map fun n : Nat => (n : Int)).length) cS), (108, .I (((sn.map fun n : Nat => (n : Int)).length : Nat) : Int)), (109, .I k), (119, .bool (decide ((((sn[k] : Nat) : Int) : Int) > (gr : Int))))] ?_
       refine tD (fun b_ => [(0, .P jb 0), (3, .I ((V.last : Nat) : Int)), (13, .slice aS ((sn.map fun n : Nat => (n : Int)).length) cS), (18, .I le), (20, .I ((sn[k] : Nat) : Int)), (104, .I (((sn.map fun n : Nat => (n : Int)).length : Nat) : Int)), (105, .I m), (107, .slice aS ((sn.map fun n : Nat => (n : Int)).length) cS), (108, .I (((sn.map fun n : Nat => (n : Int)).length : Nat) : Int)), (109, .I k), (119, .bool b_)]) ((((sn[k] : Nat) : Int) : Int) > (gr : Int)) (fun h78 => ?_) (fun h78 => ?_)
       ·
        refine qP 3 (sq 10 15) [(0, .P jb 0), (3, .I ((V.last : Nat) : Int)), (13, .slice aS ((sn.map fun n : Nat => (n : Int)).length) cS), (18, .I le), (20, .I ((sn[k] : Nat) : Int)), (104, .I (((sn.map fun n : Nat => (n : Int)).length : Nat) : Int)), (105, .I m), (107, .slice aS ((sn.map fun n : Nat => (n : Int)).length) cS), (108, .I (((sn.map fun n : Nat => (n : Int)).length : Nat) : Int)), (109, .I k), (119, .bool true), (122, .bool ((le : Int) == 0))] ?_
        refine tE (fun b_ => [(0, .P jb 0), (3, .I ((V.last : Nat) : Int)), (13, .slice aS ((sn.map fun n : Nat => (n : Int)).length) cS), (18, .I le), (20, .I ((sn[k] : Nat) : Int)), (104, .I (((sn.map fun n : Nat => (n : Int)).length : Nat) : Int)), (105, .I m), (107, .slice aS ((sn.map fun n : Nat => (n : Int)).length) cS), (108, .I (((sn.map fun n : Nat => (n : Int)).length : Nat) : Int)), (109, .I k), (119, .bool true), (122, .bool b_)]) (le : Int) 0 (fun h79 => ?_) (fun h79 => ?_)
        ·
         refine qF 5 [(0, .P jb 0), (3, .I ((V.last : Nat) : Int)), (13, .slice aS ((sn.map fun n : Nat => (n : Int)).length) cS), (18, .I le), (20, .I ((sn[k] : Nat) : Int)), (104, .I (((sn.map fun n : Nat => (n : Int)).length : Nat) : Int)), (105, .I m), (107, .slice aS ((sn.map fun n : Nat => (n : Int)).length) cS), (108, .I (((sn.map fun n : Nat => (n : Int)).length : Nat) : Int)), (109, .I k), (127, .bool true)] ?_
         exact hJ75 true ((decide_eq_true (by omega)).symm)
        ·
         refine qF 5 [(0, .P jb 0), (3, .I ((V.last : Nat) : Int)), (13, .slice aS ((sn.map fun n : Nat => (n : Int)).length) cS), (18, .I le), (20, .I ((sn[k] : Nat) : Int)), (104, .I (((sn.map fun n : Nat => (n : Int)).length : Nat) : Int)), (105, .I m), (107, .slice aS ((sn.map fun n : Nat => (n : Int)).length) cS), (108, .I (((sn.map fun n : Nat => (n : Int)).length : Nat) : Int)), (109, .I k), (127, .bool (decide ((((sn[k] : Nat) : Int) : Int) < (le : Int))))] ?_
         exact hJ75 (decide ((((sn[k] : Nat) : Int) : Int) < (le : Int))) (decide_eq_decide.2 (by constructor <;> intro _ <;> omega))
       ·
        refine qF 8 [(0, .P jb 0), (3, .I ((V.last : Nat) : Int)), (13, .slice aS ((sn.map fun n : Nat => (n : Int)).length) cS), (18, .I le), (20, .I ((sn[k] : Nat) : Int)), (104, .I (((sn.map fun n : Nat => (n : Int)).length : Nat) : Int)), (105, .I m), (107, .slice aS ((sn.map fun n : Nat => (n : Int)).length) cS), (108, .I (((sn.map fun n : Nat => (n : Int)).length : Nat) : Int)), (109, .I k), (127, .bool false)] ?_
        exact hJ75 false ((decide_eq_false (by omega)).symm)
      ·
       refine qC bj76 (fun h80 => ?_) (fun h80 => ?_)
       ·
        rw [hbj77] at h80
        replace h80 := of_decide_eq_true h80
        refine qR 2 [.c [7, 0, 1, 0, 0, 2, 0, 0, 1, 0, 1, 0, 0, 3], .l [7, 0, 1, 0, 0, 2, 0, 0, 1, 0, 1, 0, 0], .b 6, .c [7, 0, 1, 0, 0, 2, 0, 0, 2], .b 5, .c [7, 0, 1, 0, 0, 3], .l [7, 0, 1, 0, 0], .b 4, .c [8]] [(0, .P jb 0), (3, .I ((V.last : Nat) : Int)), (13, .slice aS ((sn.map fun n : Nat => (n : Int)).length) cS), (18, .I ((sn[k] : Nat) : Int)), (104, .I (((sn.map fun n : Nat => (n : Int)).length : Nat) : Int)), (105, .I m), (107, .slice aS ((sn.map fun n : Nat => (n : Int)).length) cS), (108, .I (((sn.map fun n : Nat => (n : Int)).length : Nat) : Int)), (109, .I k)] ?_
        refine qG (sq 0 2) ?_
        refine qI .seq 129 (sq 1 2) ((k : Int) + 1) ?_
        refine qF 1 [(0, .P jb 0), (3, .I ((V.last : Nat) : Int)), (13, .slice aS ((sn.map fun n : Nat => (n : Int)).length) cS), (18, .I ((sn[k] : Nat) : Int)), (104, .I (((sn.map fun n : Nat => (n : Int)).length : Nat) : Int)), (105, .I m), (107, .slice aS ((sn.map fun n : Nat => (n : Int)).length) cS), (108, .I (((sn.map fun n : Nat => (n : Int)).length : Nat) : Int)), (109, .I ((k : Int) + 1))] ?_
        have hq9 := leastF_snoc gr (sn.take k) sn[k]
        rw [← snoc_take (by omega), ← hlf] at hq9
        first | rw [if_pos (by omega)] at hq9 | rw [if_neg (by omega)] at hq9
        have H := H.frontW 2 (W' := [⟨stepS, 143, .slice sa D.steps.length sk, D.steps⟩, ⟨Shape.int .i64, 3, .slice aS ((sn.map fun n : Nat => (n : Int)).length) cS, (sn.map fun n : Nat => (n : Int))⟩, ⟨SB, 23, .slice aR rs.length cR, rs⟩]) rfl
        have H := H.frontW 1 (W' := [⟨Shape.int .i64, 3, .slice aS ((sn.map fun n : Nat => (n : Int)).length) cS, (sn.map fun n : Nat => (n : Int))⟩, ⟨stepS, 143, .slice sa D.steps.length sk, D.steps⟩, ⟨SB, 23, .slice aR rs.length cR, rs⟩]) rfl
        have H := H.frontW 2 (W' := [⟨SB, 23, .slice aR rs.length cR, rs⟩, ⟨Shape.int .i64, 3, .slice aS ((sn.map fun n : Nat => (n : Int)).length) cS, (sn.map fun n : Nat => (n : Int))⟩, ⟨stepS, 143, .slice sa D.steps.length sk, D.steps⟩]) rfl
        exact WK.back (hback64 (k + 1, sn[k]) _ ⟨H, by omega, hq9.symm⟩ (by first | omega | (simp only []; omega))) (by as_aux_lemma => kernel_rfl)
       ·
        rw [hbj77] at h80
        replace h80 := of_decide_eq_false h80
        refine qR 2 [.c [7, 0, 1, 0, 0, 2, 0, 0, 1, 0, 1, 0, 0, 3], .l [7, 0, 1, 0, 0, 2, 0, 0, 1, 0, 1, 0, 0], .b 6, .c [7, 0, 1, 0, 0, 2, 0, 0, 2], .b 5, .c [7, 0, 1, 0, 0, 3], .l [7, 0, 1, 0, 0], .b 4, .c [8]] [(0, .P jb 0), (3, .I ((V.last : Nat) : Int)), (13, .slice aS ((sn.map fun n : Nat => (n : Int)).length) cS), (18, .I le), (104, .I (((sn.map fun n : Nat => (n : Int)).length : Nat) : Int)), (105, .I m), (107, .slice aS ((sn.map fun n : Nat => (n : Int)).length) cS), (108, .I (((sn.map fun n : Nat => (n : Int)).length : Nat) : Int)), (109, .I k)] ?_
        refine qG (sq 0 2) ?_
        refine qI .seq 129 (sq 1 2) ((k : Int) + 1) ?_
        refine qF 1 [(0, .P jb 0), (3, .I ((V.last : Nat) : Int)), (13, .slice aS ((sn.map fun n : Nat => (n : Int)).length) cS), (18, .I le), (104, .I (((sn.map fun n : Nat => (n : Int)).length : Nat) : Int)), (105, .I m), (107, .slice aS ((sn.map fun n : Nat => (n : Int)).length) cS), (108, .I (((sn.map fun n : Nat => (n : Int)).length : Nat) : Int)), (109, .I ((k : Int) + 1))] ?_
        have hq9 := leastF_snoc gr (sn.take k) sn[k]
        rw [← snoc_take (by omega), ← hlf] at hq9
        first | rw [if_pos (by omega)] at hq9 | rw [if_neg (by omega)] at hq9
        have H := H.frontW 2 (W' := [⟨stepS, 143, .slice sa D.steps.length sk, D.steps⟩, ⟨Shape.int .i64, 3, .slice aS ((sn.map fun n : Nat => (n : Int)).length) cS, (sn.map fun n : Nat => (n : Int))⟩, ⟨SB, 23, .slice aR rs.length cR, rs⟩]) rfl
        have H := H.frontW 1 (W' := [⟨Shape.int .i64, 3, .slice aS ((sn.map fun n : Nat => (n : Int)).length) cS, (sn.map fun n : Nat => (n : Int))⟩, ⟨stepS, 143, .slice sa D.steps.length sk, D.steps⟩, ⟨SB, 23, .slice aR rs.length cR, rs⟩]) rfl
        have H := H.frontW 2 (W' := [⟨SB, 23, .slice aR rs.length cR, rs⟩, ⟨Shape.int .i64, 3, .slice aS ((sn.map fun n : Nat => (n : Int)).length) cS, (sn.map fun n : Nat => (n : Int))⟩, ⟨stepS, 143, .slice sa D.steps.length sk, D.steps⟩]) rfl
        exact WK.back (hback64 (k + 1, le) _ ⟨H, by omega, hq9.symm⟩ (by first | omega | (simp only []; omega))) (by as_aux_lemma => kernel_rfl)
     ·
      have hle : le = s9.n := by rw [hlf, List.take_of_length_le (by omega), hgr]; exact leastF_seg hpv.wf hsp hs9
      subst hle
      refine qR 2 [.c [7, 0, 1, 0, 0, 2, 0, 0, 2, 0], .c [7, 0, 1, 0, 0, 2, 0, 0, 3], .b 5, .c [7, 0, 1, 0, 0, 3], .l [7, 0, 1, 0, 0], .b 4, .c [8]] [(0, .P jb 0), (3, .I ((V.last : Nat) : Int)), (13, .slice aS ((sn.map fun n : Nat => (n : Int)).length) cS), (18, .I ((s9.n : Nat) : Int)), (104, .I (((sn.map fun n : Nat => (n : Int)).length : Nat) : Int)), (105, .I m)] ?_
      refine qG (sq 0 10) ?_
      refine qP 3 (sq 3 10) [(0, .P jb 0), (3, .I ((V.last : Nat) : Int)), (13, .slice aS ((sn.map fun n : Nat => (n : Int)).length) cS), (18, .I ((s9.n : Nat) : Int)), (104, .I (((sn.map fun n : Nat => (n : Int)).length : Nat) : Int)), (105, .I m), (131, .P jb 0), (132, .P jb 0), (133, .I ((s9.n : Nat) : Int))] ?_
      have hq83 := H.viewF 2 rfl
      refine qK .seq (some 134) (sq 4 10) 58 #[.P jb 0, .string (⟨#[115]⟩ : ByteArray), .I ((s9.n : Nat) : Int)] (jfile_spec (S := fun _ => True) (kd := kS) (n := s9.n) (H.viewM 0 rfl (by simp)) hq83 (by omega) hp (.inl rfl)) ?_
      rintro _ w81 hE82 rfl
      have H := H.ext hE82
      obtain ⟨fS, szS, hfS, hgn, hgz, hgz6, hgB, hgl⟩ := hP.pv.rdS hP.di (List.mem_of_getElem? hs9)
      have hal9 := allW_len (readG (gX fS.now) szS 0)
      have H := H.frontW 2 (W' := [⟨stepS, 143, .slice sa D.steps.length sk, D.steps⟩, ⟨SB, 23, .slice aR rs.length cR, rs⟩, ⟨Shape.int .i64, 3, .slice aS ((sn.map fun n : Nat => (n : Int)).length) cS, (sn.map fun n : Nat => (n : Int))⟩]) rfl
      have H := H.perms (M' := ((jb, .cells #[.P db 0, .string nm, .slice ab V.B.length cb, .slice aR rs.length cR, .I gr, .string (⟨#[]⟩ : ByteArray), .slice none 0 0, .bool true] 41 (0, 0)) :: diskM db D sa sk) ++ []) (W' := [⟨stepS, 143, .slice sa D.steps.length sk, D.steps⟩, ⟨SB, 23, .slice aR rs.length cR, rs⟩, ⟨Shape.int .i64, 3, .slice aS ((sn.map fun n : Nat => (n : Int)).length) cS, (sn.map fun n : Nat => (n : Int))⟩]) ((List.perm_append_comm (l₁ := diskM db D sa sk) (l₂ := ([] : Heap))).cons _) (List.Perm.refl _)
      refine RW.callS (d := some 135) (r := (sq 5 10)) (g := 107) (args := #[.P jb 0, .string (sN nm s9.n)]) (by as_aux_lemma => kernel_rfl) (jread_spec (f := fS) (sz := szS) (hP.al.rdy hP.di) hfS hgn hgz hgz6 ((H.lend (M1 := ((jb, .cells #[.P db 0, .string nm, .slice ab V.B.length cb, .slice aR rs.length cR, .I gr, .string (⟨#[]⟩ : ByteArray), .slice none 0 0, .bool true] 41 (0, 0)) :: diskM db D sa sk)) (W1 := [⟨stepS, 143, .slice sa D.steps.length sk, D.steps⟩])).pick [] rfl)) ?_
      rintro _ w84 ⟨a85, c86, rfl, H'⟩
      have H := H.back (M1 := ((jb, .cells #[.P db 0, .string nm, .slice ab V.B.length cb, .slice aR rs.length cR, .I gr, .string (⟨#[]⟩ : ByteArray), .slice none 0 0, .bool true] 41 (0, 0)) :: diskM db D sa sk)) (W1 := [⟨stepS, 143, .slice sa D.steps.length sk, D.steps⟩]) H'
      have H := H.perms (M' := ((jb, .cells #[.P db 0, .string nm, .slice ab V.B.length cb, .slice aR rs.length cR, .I gr, .string (⟨#[]⟩ : ByteArray), .slice none 0 0, .bool true] 41 (0, 0)) :: (diskM db D sa sk))) (W' := [⟨Sb, 5, .slice a85 ((readG (gX fS.now) szS 0).length) c86, (readG (gX fS.now) szS 0)⟩, ⟨stepS, 143, .slice sa D.steps.length sk, D.steps⟩, ⟨SB, 23, .slice aR rs.length cR, rs⟩, ⟨Shape.int .i64, 3, .slice aS ((sn.map fun n : Nat => (n : Int)).length) cS, (sn.map fun n : Nat => (n : Int))⟩]) ((List.perm_append_comm (l₁ := ([] : Heap)) (l₂ := diskM db D sa sk)).cons _) (List.Perm.refl _)
      have H : Hp w S O ((jb, .cells #[.P db 0, .string nm, .slice ab V.B.length cb, .slice aR rs.length cR, .I gr, .string (⟨#[]⟩ : ByteArray), .slice none 0 0, .bool true] 41 (0, 0)) :: (diskM db D sa sk)) [⟨Sb, 5, .slice a85 ((readG (gX fS.now) szS 0).length) c86, (readG (gX fS.now) szS 0)⟩, ⟨stepS, 143, .slice sa D.steps.length sk, D.steps⟩, ⟨SB, 23, .slice aR rs.length cR, rs⟩, ⟨Shape.int .i64, 3, .slice aS ((sn.map fun n : Nat => (n : Int)).length) cS, (sn.map fun n : Nat => (n : Int))⟩] [Rp (Shape.slice Shape.str) [.slice a38 ns40.length c39] ns40, Rp SB [.slice ab V.B.length cb] V.B, Fz jQ] _ := H
      have H : Hp w S O ((jb, .cells #[.P db 0, .string nm, .slice ab V.B.length cb, .slice aR rs.length cR, .I gr, .string (⟨#[]⟩ : ByteArray), .slice none 0 0, .bool true] 41 (0, 0)) :: (diskM db D sa sk)) [⟨stepS, 143, .slice sa D.steps.length sk, D.steps⟩, ⟨SB, 23, .slice aR rs.length cR, rs⟩, ⟨Shape.int .i64, 3, .slice aS ((sn.map fun n : Nat => (n : Int)).length) cS, (sn.map fun n : Nat => (n : Int))⟩] [Rp SB [.slice a85 ((readG (gX fS.now) szS 0).length) c86] (readG (gX fS.now) szS 0), Rp (Shape.slice Shape.str) [.slice a38 ns40.length c39] ns40, Rp SB [.slice ab V.B.length cb] V.B, Fz jQ] _ := H.freezeW 0 rfl
      refine qF 5 [(0, .P jb 0), (3, .I ((V.last : Nat) : Int)), (13, .slice aS ((sn.map fun n : Nat => (n : Int)).length) cS), (18, .I ((s9.n : Nat) : Int)), (21, .slice a85 ((readG (gX fS.now) szS 0).length) c86), (22, .nilIface), (104, .I (((sn.map fun n : Nat => (n : Int)).length : Nat) : Int)), (105, .I m)] ?_
      refine qR 6 [.c [7, 0, 1, 0, 0, 2, 0, 0, 4, 0], .c [7, 0, 1, 0, 0, 2, 0, 0, 5], .b 5, .c [7, 0, 1, 0, 0, 3], .l [7, 0, 1, 0, 0], .b 4, .c [8]] [(0, .P jb 0), (3, .I ((V.last : Nat) : Int)), (13, .slice aS ((sn.map fun n : Nat => (n : Int)).length) cS), (18, .I ((s9.n : Nat) : Int)), (21, .slice a85 ((readG (gX fS.now) szS 0).length) c86), (104, .I (((sn.map fun n : Nat => (n : Int)).length : Nat) : Int)), (105, .I m)] ?_
      refine qG (sq 0 7) ?_
      refine qP 1 (sq 1 7) [(0, .P jb 0), (3, .I ((V.last : Nat) : Int)), (13, .slice aS ((sn.map fun n : Nat => (n : Int)).length) cS), (18, .I ((s9.n : Nat) : Int)), (104, .I (((sn.map fun n : Nat => (n : Int)).length : Nat) : Int)), (105, .I m), (142, .slice a85 ((readG (gX fS.now) szS 0).length) c86)] ?_
      refine qK .seq (some 143) (sq 2 7) 109 #[.slice a85 ((readG (gX fS.now) szS 0).length) c86] (wAll_spec (xs := (readG (gX fS.now) szS 0)) (H.rp 0 rfl) (by omega) (H.fact 3 rfl)) ?_
      rintro _ w87 - ⟨a88, c89, k90, rfl, H'⟩
      have H := H.back (M1 := []) (W1 := []) H'
      have H : Hp w S O ((jb, .cells #[.P db 0, .string nm, .slice ab V.B.length cb, .slice aR rs.length cR, .I gr, .string (⟨#[]⟩ : ByteArray), .slice none 0 0, .bool true] 41 (0, 0)) :: (diskM db D sa sk)) [⟨SB, 23, .slice a88 ((allW (readG (gX fS.now) szS 0)).length) c89, (allW (readG (gX fS.now) szS 0))⟩, ⟨stepS, 143, .slice sa D.steps.length sk, D.steps⟩, ⟨SB, 23, .slice aR rs.length cR, rs⟩, ⟨Shape.int .i64, 3, .slice aS ((sn.map fun n : Nat => (n : Int)).length) cS, (sn.map fun n : Nat => (n : Int))⟩] [Rp SB [.slice a85 ((readG (gX fS.now) szS 0).length) c86] (readG (gX fS.now) szS 0), Rp (Shape.slice Shape.str) [.slice a38 ns40.length c39] ns40, Rp SB [.slice ab V.B.length cb] V.B, Fz jQ] _ := H
      refine qF 5 [(0, .P jb 0), (3, .I ((V.last : Nat) : Int)), (13, .slice aS ((sn.map fun n : Nat => (n : Int)).length) cS), (18, .I ((s9.n : Nat) : Int)), (23, .slice a88 ((allW (readG (gX fS.now) szS 0)).length) c89), (104, .I (((sn.map fun n : Nat => (n : Int)).length : Nat) : Int)), (105, .I m)] ?_
      refine qR 1 [.c [7, 0, 1, 0, 0, 2, 0, 0, 5, 0], .c [7, 0, 1, 0, 0, 2, 0, 0, 6], .b 5, .c [7, 0, 1, 0, 0, 3], .l [7, 0, 1, 0, 0], .b 4, .c [8]] [(0, .P jb 0), (3, .I ((V.last : Nat) : Int)), (13, .slice aS ((sn.map fun n : Nat => (n : Int)).length) cS), (18, .I ((s9.n : Nat) : Int)), (23, .slice a88 ((allW (readG (gX fS.now) szS 0)).length) c89), (104, .I (((sn.map fun n : Nat => (n : Int)).length : Nat) : Int)), (105, .I m)] ?_
      refine qG (sq 0 10) ?_
      refine qP 4 (sq 4 10) [(0, .P jb 0), (3, .I ((V.last : Nat) : Int)), (13, .slice aS ((sn.map fun n : Nat => (n : Int)).length) cS), (18, .I ((s9.n : Nat) : Int)), (23, .slice a88 ((allW (readG (gX fS.now) szS 0)).length) c89), (104, .I (((sn.map fun n : Nat => (n : Int)).length : Nat) : Int)), (105, .I m), (146, .P jb 0), (149, .P jb 3)] ?_
      refine qL .seq 150 (sq 5 10) 22 jb 3 3 (.slice aR rs.length cR) (H.cells 0 rfl) ?_
      refine qP 1 (sq 6 10) [(0, .P jb 0), (3, .I ((V.last : Nat) : Int)), (13, .slice aS ((sn.map fun n : Nat => (n : Int)).length) cS), (18, .I ((s9.n : Nat) : Int)), (104, .I (((sn.map fun n : Nat => (n : Int)).length : Nat) : Int)), (105, .I m), (146, .P jb 0), (150, .slice aR rs.length cR), (151, .slice a88 ((allW (readG (gX fS.now) szS 0)).length) c89)] ?_
      have H : Hp w S O ((jb, .cells #[.P db 0, .string nm, .slice ab V.B.length cb, .slice aR rs.length cR, .I gr, .string (⟨#[]⟩ : ByteArray), .slice none 0 0, .bool true] 41 (0, 0)) :: (diskM db D sa sk)) [⟨stepS, 143, .slice sa D.steps.length sk, D.steps⟩, ⟨SB, 23, .slice aR rs.length cR, rs⟩, ⟨Shape.int .i64, 3, .slice aS ((sn.map fun n : Nat => (n : Int)).length) cS, (sn.map fun n : Nat => (n : Int))⟩] [Rp (Shape.slice SB) [.slice a88 ((allW (readG (gX fS.now) szS 0)).length) c89] (allW (readG (gX fS.now) szS 0)), Rp SB [.slice a85 ((readG (gX fS.now) szS 0).length) c86] (readG (gX fS.now) szS 0), Rp (Shape.slice Shape.str) [.slice a38 ns40.length c39] ns40, Rp SB [.slice ab V.B.length cb] V.B, Fz jQ] _ := H.freezeW 0 rfl
      refine RW.appendW (d := some 152) (r := (sq 7 10)) (T := 22) (ty := 22) (e := 23) (m := 1) (by_ := 24) (v := .slice aR rs.length cR) (a2 := a88) (l2 := ((allW (readG (gX fS.now) szS 0)).length)) (c2 := c89) (zs := rs ++ (allW (readG (gX fS.now) szS 0))) (by as_aux_lemma => kernel_rfl) (by as_aux_lemma => kernel_rfl) rfl H 1 rfl 0 rfl (rfl) (by rw [List.length_append]; omega) ?_
      intro a91 c92 w94 H hc93
      have H : Hp w S O ((jb, .cells #[.P db 0, .string nm, .slice ab V.B.length cb, .slice aR rs.length cR, .I gr, .string (⟨#[]⟩ : ByteArray), .slice none 0 0, .bool true] 41 (0, 0)) :: (diskM db D sa sk)) [⟨stepS, 143, .slice sa D.steps.length sk, D.steps⟩, ⟨SB, 23, .slice a91 ((rs ++ (allW (readG (gX fS.now) szS 0))).length) c92, rs ++ (allW (readG (gX fS.now) szS 0))⟩, ⟨Shape.int .i64, 3, .slice aS ((sn.map fun n : Nat => (n : Int)).length) cS, (sn.map fun n : Nat => (n : Int))⟩] [Rp (Shape.slice SB) [.slice a88 ((allW (readG (gX fS.now) szS 0)).length) c89] (allW (readG (gX fS.now) szS 0)), Rp SB [.slice a85 ((readG (gX fS.now) szS 0).length) c86] (readG (gX fS.now) szS 0), Rp (Shape.slice Shape.str) [.slice a38 ns40.length c39] ns40, Rp SB [.slice ab V.B.length cb] V.B, Fz jQ] _ := H
      refine qP 2 (sq 9 10) [(0, .P jb 0), (3, .I ((V.last : Nat) : Int)), (13, .slice aS ((sn.map fun n : Nat => (n : Int)).length) cS), (18, .I ((s9.n : Nat) : Int)), (104, .I (((sn.map fun n : Nat => (n : Int)).length : Nat) : Int)), (105, .I m), (152, .slice a91 ((rs ++ (allW (readG (gX fS.now) szS 0))).length) c92), (154, .P jb 3)] ?_
      refine qW 22 jb 3 (sq 10 10) (.slice a91 ((rs ++ (allW (readG (gX fS.now) szS 0))).length) c92) ((jb, .cells #[.P db 0, .string nm, .slice ab V.B.length cb, .slice a91 ((rs ++ (allW (readG (gX fS.now) szS 0))).length) c92, .I gr, .string (⟨#[]⟩ : ByteArray), .slice none 0 0, .bool true] 41 (0, 0)) :: (diskM db D sa sk)) H 0 rfl rfl ?_
      intro w95 H
      refine qF 0 [(0, .P jb 0), (3, .I ((V.last : Nat) : Int)), (13, .slice aS ((sn.map fun n : Nat => (n : Int)).length) cS), (18, .I ((s9.n : Nat) : Int)), (104, .I (((sn.map fun n : Nat => (n : Int)).length : Nat) : Int)), (105, .I m)] ?_
      refine qR 1 [.c [7, 0, 1, 0, 0, 2, 0, 0, 6, 0], .c [7, 0, 1, 0, 0, 2, 0, 0, 7], .b 5, .c [7, 0, 1, 0, 0, 3], .l [7, 0, 1, 0, 0], .b 4, .c [8]] [(0, .P jb 0), (3, .I ((V.last : Nat) : Int)), (13, .slice aS ((sn.map fun n : Nat => (n : Int)).length) cS), (18, .I ((s9.n : Nat) : Int)), (104, .I (((sn.map fun n : Nat => (n : Int)).length : Nat) : Int)), (105, .I m)] ?_
      refine qG (sq 0 5) ?_
      refine qP 4 (sq 4 5) [(0, .P jb 0), (3, .I ((V.last : Nat) : Int)), (13, .slice aS ((sn.map fun n : Nat => (n : Int)).length) cS), (18, .I ((s9.n : Nat) : Int)), (104, .I (((sn.map fun n : Nat => (n : Int)).length : Nat) : Int)), (105, .I m), (156, .I ((s9.n : Nat) : Int)), (158, .P jb 4)] ?_
      refine qW 3 jb 4 (sq 5 5) (.I ((s9.n : Nat) : Int)) ((jb, .cells #[.P db 0, .string nm, .slice ab V.B.length cb, .slice a91 ((rs ++ (allW (readG (gX fS.now) szS 0))).length) c92, .I ((s9.n : Nat) : Int), .string (⟨#[]⟩ : ByteArray), .slice none 0 0, .bool true] 41 (0, 0)) :: (diskM db D sa sk)) H 0 rfl rfl ?_
      intro w96 H
      refine qF 0 [(0, .P jb 0), (3, .I ((V.last : Nat) : Int)), (13, .slice aS ((sn.map fun n : Nat => (n : Int)).length) cS), (18, .I ((s9.n : Nat) : Int)), (104, .I (((sn.map fun n : Nat => (n : Int)).length : Nat) : Int)), (105, .I m)] ?_
      refine qR 1 [.c [7, 0, 1, 0, 0, 2, 0, 0, 7, 0], .c [7, 0, 1, 0, 0, 2, 0, 0, 8], .b 5, .c [7, 0, 1, 0, 0, 3], .l [7, 0, 1, 0, 0], .b 4, .c [8]] [(0, .P jb 0), (3, .I ((V.last : Nat) : Int)), (13, .slice aS ((sn.map fun n : Nat => (n : Int)).length) cS), (18, .I ((s9.n : Nat) : Int)), (104, .I (((sn.map fun n : Nat => (n : Int)).length : Nat) : Int)), (105, .I m)] ?_
      refine WK.draw1 7 [(0, .qui), (1, .qui), (2, .qui), (3, .qui), (4, .qui), (5, .qui), (6, .chn)] [(0, .qui), (1, .qui), (2, .qui), (3, .qui), (4, .qui), (5, .qui), (6, .chn), (7, .seq), (8, .seq)] Tryz_mixed (by as_aux_lemma => kernel_rfl) (by as_aux_lemma => kernel_rfl) (by as_aux_lemma => kernel_rfl) ?_
      have H := H.draw
      generalize ({ w96 with drawn := w96.drawn + 1 } : World) = w97 at H ⊢
      refine qP 3 [(3, .qui), (4, .qui), (5, .qui), (6, .chn), (7, .seq), (8, .seq)] [(0, .P jb 0), (3, .I ((V.last : Nat) : Int)), (13, .slice aS ((sn.map fun n : Nat => (n : Int)).length) cS), (18, .I ((s9.n : Nat) : Int)), (104, .I (((sn.map fun n : Nat => (n : Int)).length : Nat) : Int)), (105, .I m), (161, .P jb 0)] ?_
      refine qL .qui 162 [(4, .qui), (5, .qui), (6, .chn), (7, .seq), (8, .seq)] 24 jb 0 0 (.P db 0) (H.cells 0 rfl) ?_
      refine qP 2 [(6, .chn), (7, .seq), (8, .seq)] [(0, .P jb 0), (3, .I ((V.last : Nat) : Int)), (13, .slice aS ((sn.map fun n : Nat => (n : Int)).length) cS), (104, .I (((sn.map fun n : Nat => (n : Int)).length : Nat) : Int)), (105, .I m), (162, .P db 0), (163, .P jb 0), (164, .I ((s9.n : Nat) : Int))] ?_
      have hq100 := H.viewF 4 rfl
      refine qK .chn (some 165) [(7, .seq), (8, .seq)] 58 #[.P jb 0, .string (⟨#[115]⟩ : ByteArray), .I ((s9.n : Nat) : Int)] (jfile_spec (S := fun _ => True) (kd := kS) (n := s9.n) (H.viewM 0 rfl (by simp)) hq100 (by omega) hp (.inl rfl)) ?_
      rintro _ w98 hE99 rfl
      have H := H.ext hE99
      have H := H.perms (M' := diskM db D sa sk ++ [(jb, .cells #[.P db 0, .string nm, .slice ab V.B.length cb, .slice a91 ((rs ++ (allW (readG (gX fS.now) szS 0))).length) c92, .I ((s9.n : Nat) : Int), .string (⟨#[]⟩ : ByteArray), .slice none 0 0, .bool true] 41 (0, 0))]) (W' := [⟨stepS, 143, .slice sa D.steps.length sk, D.steps⟩, ⟨SB, 23, .slice a91 ((rs ++ (allW (readG (gX fS.now) szS 0))).length) c92, rs ++ (allW (readG (gX fS.now) szS 0))⟩, ⟨Shape.int .i64, 3, .slice aS ((sn.map fun n : Nat => (n : Int)).length) cS, (sn.map fun n : Nat => (n : Int))⟩]) (List.perm_append_comm (l₁ := diskM db D sa sk) (l₂ := ([(jb, .cells #[.P db 0, .string nm, .slice ab V.B.length cb, .slice a91 ((rs ++ (allW (readG (gX fS.now) szS 0))).length) c92, .I ((s9.n : Nat) : Int), .string (⟨#[]⟩ : ByteArray), .slice none 0 0, .bool true] 41 (0, 0))] : Heap))) (List.Perm.refl _)
      refine RW.callS (d := some 166) (r := [(8, .seq)]) (g := 60) (args := #[.P db 0, .string (sN nm s9.n)]) (by as_aux_lemma => kernel_rfl) (dSync (hP.al.rdy hP.di).di.ok (hP.al.rdy hP.di).st (hP.al.rdy hP.di).dead (hP.al.rdy hP.di).hl ((H.lend (M1 := diskM db D sa sk) (W1 := [⟨stepS, 143, .slice sa D.steps.length sk, D.steps⟩])).pick [] rfl)) ?_
      rintro _ w101 ⟨D102, sa103, sk104, ⟨e105, rfl, hR106⟩, H'⟩
      have H := H.back (M1 := diskM db D sa sk) (W1 := [⟨stepS, 143, .slice sa D.steps.length sk, D.steps⟩]) H'
      have H := H.perms (M' := ((jb, .cells #[.P db 0, .string nm, .slice ab V.B.length cb, .slice a91 ((rs ++ (allW (readG (gX fS.now) szS 0))).length) c92, .I ((s9.n : Nat) : Int), .string (⟨#[]⟩ : ByteArray), .slice none 0 0, .bool true] 41 (0, 0)) :: (diskM db D102 sa103 sk104))) (W' := [⟨stepS, 143, .slice sa103 D102.steps.length sk104, D102.steps⟩, ⟨SB, 23, .slice a91 ((rs ++ (allW (readG (gX fS.now) szS 0))).length) c92, rs ++ (allW (readG (gX fS.now) szS 0))⟩, ⟨Shape.int .i64, 3, .slice aS ((sn.map fun n : Nat => (n : Int)).length) cS, (sn.map fun n : Nat => (n : Int))⟩]) ((List.perm_append_comm (l₁ := diskM db D102 sa103 sk104) (l₂ := ([(jb, .cells #[.P db 0, .string nm, .slice ab V.B.length cb, .slice a91 ((rs ++ (allW (readG (gX fS.now) szS 0))).length) c92, .I ((s9.n : Nat) : Int), .string (⟨#[]⟩ : ByteArray), .slice none 0 0, .bool true] 41 (0, 0))] : Heap))).symm) (List.Perm.refl _)
      have H : Hp w S O ((jb, .cells #[.P db 0, .string nm, .slice ab V.B.length cb, .slice a91 ((rs ++ (allW (readG (gX fS.now) szS 0))).length) c92, .I ((s9.n : Nat) : Int), .string (⟨#[]⟩ : ByteArray), .slice none 0 0, .bool true] 41 (0, 0)) :: (diskM db D102 sa103 sk104)) [⟨stepS, 143, .slice sa103 D102.steps.length sk104, D102.steps⟩, ⟨SB, 23, .slice a91 ((rs ++ (allW (readG (gX fS.now) szS 0))).length) c92, rs ++ (allW (readG (gX fS.now) szS 0))⟩, ⟨Shape.int .i64, 3, .slice aS ((sn.map fun n : Nat => (n : Int)).length) cS, (sn.map fun n : Nat => (n : Int))⟩] [Rp (Shape.slice SB) [.slice a88 ((allW (readG (gX fS.now) szS 0)).length) c89] (allW (readG (gX fS.now) szS 0)), Rp SB [.slice a85 ((readG (gX fS.now) szS 0).length) c86] (readG (gX fS.now) szS 0), Rp (Shape.slice Shape.str) [.slice a38 ns40.length c39] ns40, Rp SB [.slice ab V.B.length cb] V.B, Fz jQ] _ := H
      have hR106 : SyncR D (sN nm s9.n) e105 D102 := hR106
      rcases hP.sync hs9 hR106 with ⟨rfl, hB108⟩ | ⟨rfl, hA107⟩
      ·
       refine qF 1 [(0, .P jb 0), (3, .I ((V.last : Nat) : Int)), (13, .slice aS ((sn.map fun n : Nat => (n : Int)).length) cS), (25, .I 70), (104, .I (((sn.map fun n : Nat => (n : Int)).length : Nat) : Int)), (105, .I m)] ?_
       refine qR 4 [.c [7, 0, 1, 0, 0, 2, 0, 0, 9, 0, 0], .c [7, 0, 1, 0, 0, 2, 0, 0, 9, 0, 1], .b 5, .c [7, 0, 1, 0, 0, 3], .l [7, 0, 1, 0, 0], .b 4, .c [8]] [(25, .I 70)] ?_
       refine qG (sq 0 3) ?_
       refine qP 1 (sq 1 3) [(169, .I 70)] ?_
       refine qK .seq (some 170) (sq 2 3) 110 #[.I 70] (told_spec (S := Av S w O (idsOf ((jb, .cells #[.P db 0, .string nm, .slice ab V.B.length cb, .slice a91 ((rs ++ (allW (readG (gX fS.now) szS 0))).length) c92, .I ((s9.n : Nat) : Int), .string (⟨#[]⟩ : ByteArray), .slice none 0 0, .bool true] 41 (0, 0)) :: (diskM db D102 sa103 sk104)) [⟨stepS, 143, .slice sa103 D102.steps.length sk104, D102.steps⟩, ⟨SB, 23, .slice a91 ((rs ++ (allW (readG (gX fS.now) szS 0))).length) c92, rs ++ (allW (readG (gX fS.now) szS 0))⟩, ⟨Shape.int .i64, 3, .slice aS ((sn.map fun n : Nat => (n : Int)).length) cS, (sn.map fun n : Nat => (n : Int))⟩]))) ?_
       rintro _ w109 - ⟨eb110, rfl, H'⟩
       have H := H.back (M1 := []) (W1 := []) H'
       have H : Hp w S O ((eb110, .cells #[.I 70] 204 (0, 0)) :: (jb, .cells #[.P db 0, .string nm, .slice ab V.B.length cb, .slice a91 ((rs ++ (allW (readG (gX fS.now) szS 0))).length) c92, .I ((s9.n : Nat) : Int), .string (⟨#[]⟩ : ByteArray), .slice none 0 0, .bool true] 41 (0, 0)) :: (diskM db D102 sa103 sk104)) [⟨stepS, 143, .slice sa103 D102.steps.length sk104, D102.steps⟩, ⟨SB, 23, .slice a91 ((rs ++ (allW (readG (gX fS.now) szS 0))).length) c92, rs ++ (allW (readG (gX fS.now) szS 0))⟩, ⟨Shape.int .i64, 3, .slice aS ((sn.map fun n : Nat => (n : Int)).length) cS, (sn.map fun n : Nat => (n : Int))⟩] [Rp (Shape.slice SB) [.slice a88 ((allW (readG (gX fS.now) szS 0)).length) c89] (allW (readG (gX fS.now) szS 0)), Rp SB [.slice a85 ((readG (gX fS.now) szS 0).length) c86] (readG (gX fS.now) szS 0), Rp (Shape.slice Shape.str) [.slice a38 ns40.length c39] ns40, Rp SB [.slice ab V.B.length cb] V.B, Fz jQ] _ := H
       refine qF 1 [(2, .iface 200 (.P eb110 0))] ?_
       refine qT (.iface 200 (.P eb110 0)) Tryz.func52 ?_
       have H := H.pick [] rfl
       have H := H.drop (M' := ((eb110, .cells #[.I 70] 204 (0, 0)) :: (jb, .cells #[.P db 0, .string nm, .slice ab V.B.length cb, .slice a91 ((rs ++ (allW (readG (gX fS.now) szS 0))).length) c92, .I ((s9.n : Nat) : Int), .string (⟨#[]⟩ : ByteArray), .slice none 0 0, .bool true] 41 (0, 0)) :: (diskM db D102 sa103 sk104))) (W' := [⟨stepS, 143, .slice sa103 D102.steps.length sk104, D102.steps⟩]) (by repeat (first | exact List.Sublist.refl _ | exact List.nil_sublist _ | apply List.Sublist.cons_cons | apply List.Sublist.cons)) (by repeat (first | exact List.Sublist.refl _ | exact List.nil_sublist _ | apply List.Sublist.cons_cons | apply List.Sublist.cons))
       exact ⟨_, rfl, .inr ⟨eb110, _, _, _, _, _, _, D102, sa103, sk104, rfl, (hB108).mono (Nat.le_max_left _ _) fun _ _ _ h => .inl h, H⟩⟩
      ·
       refine qF 1 [(0, .P jb 0), (3, .I ((V.last : Nat) : Int)), (13, .slice aS ((sn.map fun n : Nat => (n : Int)).length) cS), (25, .I 0), (104, .I (((sn.map fun n : Nat => (n : Int)).length : Nat) : Int)), (105, .I m)] ?_
       refine qR 5 [.c [7, 0, 1, 0, 0, 3], .l [7, 0, 1, 0, 0], .b 4, .c [8]] [(0, .P jb 0), (3, .I ((V.last : Nat) : Int)), (13, .slice aS ((sn.map fun n : Nat => (n : Int)).length) cS), (104, .I (((sn.map fun n : Nat => (n : Int)).length : Nat) : Int)), (105, .I m)] ?_
       refine qG (sq 0 2) ?_
       refine qI .seq 171 (sq 1 2) ((m : Int) + 1) ?_
       refine qF 1 [(0, .P jb 0), (3, .I ((V.last : Nat) : Int)), (13, .slice aS ((sn.map fun n : Nat => (n : Int)).length) cS), (104, .I (((sn.map fun n : Nat => (n : Int)).length : Nat) : Int)), (105, .I ((m : Int) + 1))] ?_
       have H := H.pick [2, 3, 4] rfl
       have H := H.frontW 2 (W' := [⟨Shape.int .i64, 3, .slice aS ((sn.map fun n : Nat => (n : Int)).length) cS, (sn.map fun n : Nat => (n : Int))⟩, ⟨stepS, 143, .slice sa103 D102.steps.length sk104, D102.steps⟩, ⟨SB, 23, .slice a91 ((rs ++ (allW (readG (gX fS.now) szS 0))).length) c92, rs ++ (allW (readG (gX fS.now) szS 0))⟩]) rfl
       have H := H.frontW 2 (W' := [⟨SB, 23, .slice a91 ((rs ++ (allW (readG (gX fS.now) szS 0))).length) c92, rs ++ (allW (readG (gX fS.now) szS 0))⟩, ⟨Shape.int .i64, 3, .slice aS ((sn.map fun n : Nat => (n : Int)).length) cS, (sn.map fun n : Nat => (n : Int))⟩, ⟨stepS, 143, .slice sa103 D102.steps.length sk104, D102.steps⟩]) rfl
       have H := H.drop (M' := ((jb, .cells #[.P db 0, .string nm, .slice ab V.B.length cb, .slice a91 (rs ++ (allW (readG (gX fS.now) szS 0))).length c92, .I (s9.n : Int), .string (⟨#[]⟩ : ByteArray), .slice none 0 0, .bool true] 41 (0, 0)) :: (diskM db D102 sa103 sk104))) (W' := [⟨SB, 23, .slice a91 (rs ++ (allW (readG (gX fS.now) szS 0))).length c92, (rs ++ (allW (readG (gX fS.now) szS 0)))⟩, ⟨Shape.int .i64, 3, .slice aS ((sn.map fun n : Nat => (n : Int)).length) cS, (sn.map fun n : Nat => (n : Int))⟩, ⟨stepS, 143, .slice sa103 D102.steps.length sk104, D102.steps⟩]) (by repeat (first | exact List.Sublist.refl _ | apply List.Sublist.cons_cons | apply List.Sublist.cons)) (by repeat (first | exact List.Sublist.refl _ | apply List.Sublist.cons_cons | apply List.Sublist.cons))
       exact WK.back (hback61 (m + 1, D102, sa103, sk104, s9.n, rs ++ (allW (readG (gX fS.now) szS 0)), a91, c92) _ ⟨H, by omega, hA107, by show s9.n = ((V.segs[m]?).map (·.n)).getD 0; rw [hs9]; rfl, by rw [hrs, recs_snoc hs9, hgB, hP.same], by rw [List.length_append]; omega⟩ (by first | omega | (simp only []; omega))) (by as_aux_lemma => kernel_rfl)
    ·
     refine qR 2 [.c [8, 0], .c [9]] [(0, .P jb 0), (3, .I ((V.last : Nat) : Int))] ?_
     refine qG (sq 0 4) ?_
     refine qP 2 (sq 2 4) [(172, .P jb 0), (173, .I ((V.last : Nat) : Int))] ?_
     have hme : m = V.segs.length := by omega
     subst hme
     have hP9 := hP
     have hrs9 : rs = recsV D0 V := by rw [hrs, List.take_length]; rfl
     have hgr9 : gr = gV V := by rw [hgr, gAt_end]
     subst hrs9
     subst hgr9
     have H : Hp w S O ((jb, .cells #[.P db 0, .string nm, .slice ab V.B.length cb, .slice aR (recsV D0 V).length cR, .I ((gV V : Nat) : Int), .string (⟨#[]⟩ : ByteArray), .slice none 0 0, .bool true] 41 (0, 0)) :: (diskM db D sa sk)) [⟨SB, 23, .slice aR (recsV D0 V).length cR, recsV D0 V⟩, ⟨Shape.int .i64, 3, .slice aS ((sn.map fun n : Nat => (n : Int)).length) cS, (sn.map fun n : Nat => (n : Int))⟩, ⟨stepS, 143, .slice sa D.steps.length sk, D.steps⟩] [Rp (Shape.slice Shape.str) [.slice a38 ns40.length c39] ns40, Rp SB [.slice ab V.B.length cb] V.B, Fz jQ] _ := H
     have H := H.frontW 2 (W' := [⟨stepS, 143, .slice sa D.steps.length sk, D.steps⟩, ⟨SB, 23, .slice aR (recsV D0 V).length cR, recsV D0 V⟩, ⟨Shape.int .i64, 3, .slice aS ((sn.map fun n : Nat => (n : Int)).length) cS, (sn.map fun n : Nat => (n : Int))⟩]) rfl
     have H := H.perms (M' := ((jb, .cells #[.P db 0, .string nm, .slice ab V.B.length cb, .slice aR (recsV D0 V).length cR, .I ((gV V : Nat) : Int), .string (⟨#[]⟩ : ByteArray), .slice none 0 0, .bool true] 41 (0, 0)) :: diskM db D sa sk) ++ []) (W' := [⟨stepS, 143, .slice sa D.steps.length sk, D.steps⟩, ⟨SB, 23, .slice aR (recsV D0 V).length cR, recsV D0 V⟩, ⟨Shape.int .i64, 3, .slice aS ((sn.map fun n : Nat => (n : Int)).length) cS, (sn.map fun n : Nat => (n : Int))⟩]) ((List.perm_append_comm (l₁ := diskM db D sa sk) (l₂ := ([] : Heap))).cons _) (List.Perm.refl _)
     refine RW.callS (d := some 174) (r := (sq 3 4)) (g := 56) (args := #[.P jb 0, .I ((V.last : Nat) : Int)]) (by as_aux_lemma => kernel_rfl) (jdrop_spec (Dz := D0) (V := fixV D0 V) (g := gV V) (n := n) hp (hP9.al.rdy hP9.di) (by rw [hP9.nw]; exact hnl) (fun ns h9 => DrS.start hP9.di (hP9.al.mono (by rw [hP9.nw]; omega)) hP9.done hP9.stp hP9.cp h9) ((H.lend (M1 := ((jb, .cells #[.P db 0, .string nm, .slice ab V.B.length cb, .slice aR (recsV D0 V).length cR, .I ((gV V : Nat) : Int), .string (⟨#[]⟩ : ByteArray), .slice none 0 0, .bool true] 41 (0, 0)) :: diskM db D sa sk)) (W1 := [⟨stepS, 143, .slice sa D.steps.length sk, D.steps⟩])).pick [] rfl)) ?_
     rintro _ w111 (⟨rfl, D112, sa113, sk114, hP116, H'⟩ | ⟨eb115, rfl, D112, sa113, sk114, hQ117, H'⟩)
     ·
      have H := H.back (M1 := ((jb, .cells #[.P db 0, .string nm, .slice ab V.B.length cb, .slice aR (recsV D0 V).length cR, .I ((gV V : Nat) : Int), .string (⟨#[]⟩ : ByteArray), .slice none 0 0, .bool true] 41 (0, 0)) :: diskM db D sa sk)) (W1 := [⟨stepS, 143, .slice sa D.steps.length sk, D.steps⟩]) H'
      have H := H.perms (M' := ((jb, .cells #[.P db 0, .string nm, .slice ab V.B.length cb, .slice aR (recsV D0 V).length cR, .I ((gV V : Nat) : Int), .string (⟨#[]⟩ : ByteArray), .slice none 0 0, .bool true] 41 (0, 0)) :: (diskM db D112 sa113 sk114))) (W' := [⟨stepS, 143, .slice sa113 D112.steps.length sk114, D112.steps⟩, ⟨SB, 23, .slice aR (recsV D0 V).length cR, recsV D0 V⟩, ⟨Shape.int .i64, 3, .slice aS ((sn.map fun n : Nat => (n : Int)).length) cS, (sn.map fun n : Nat => (n : Int))⟩]) ((List.perm_append_comm (l₁ := ([] : Heap)) (l₂ := diskM db D112 sa113 sk114)).cons _) (List.Perm.refl _)
      have H : Hp w S O ((jb, .cells #[.P db 0, .string nm, .slice ab V.B.length cb, .slice aR (recsV D0 V).length cR, .I ((gV V : Nat) : Int), .string (⟨#[]⟩ : ByteArray), .slice none 0 0, .bool true] 41 (0, 0)) :: (diskM db D112 sa113 sk114)) [⟨stepS, 143, .slice sa113 D112.steps.length sk114, D112.steps⟩, ⟨SB, 23, .slice aR (recsV D0 V).length cR, recsV D0 V⟩, ⟨Shape.int .i64, 3, .slice aS ((sn.map fun n : Nat => (n : Int)).length) cS, (sn.map fun n : Nat => (n : Int))⟩] [Rp (Shape.slice Shape.str) [.slice a38 ns40.length c39] ns40, Rp SB [.slice ab V.B.length cb] V.B, Fz jQ] _ := H
      refine qF 1 [(2, .nilIface)] ?_
      refine qT .nilIface Tryz.func52 ?_
      have H := H.pick [1] rfl
      have H := H.frontW 1 (W' := [⟨SB, 23, .slice aR (recsV D0 V).length cR, recsV D0 V⟩, ⟨stepS, 143, .slice sa113 D112.steps.length sk114, D112.steps⟩, ⟨Shape.int .i64, 3, .slice aS ((sn.map fun n : Nat => (n : Int)).length) cS, (sn.map fun n : Nat => (n : Int))⟩]) rfl
      have H := H.drop (M' := ((jb, .cells #[.P db 0, .string nm, .slice ab V.B.length cb, .slice aR (recsV D0 V).length cR, .I ((gV V : Nat) : Int), .string (⟨#[]⟩ : ByteArray), .slice none 0 0, .bool true] 41 (0, 0)) :: (diskM db D112 sa113 sk114))) (W' := [⟨SB, 23, .slice aR (recsV D0 V).length cR, recsV D0 V⟩, ⟨stepS, 143, .slice sa113 D112.steps.length sk114, D112.steps⟩]) (by repeat (first | exact List.Sublist.refl _ | exact List.nil_sublist _ | apply List.Sublist.cons_cons | apply List.Sublist.cons)) (by repeat (first | exact List.Sublist.refl _ | exact List.nil_sublist _ | apply List.Sublist.cons_cons | apply List.Sublist.cons))
      exact ⟨_, rfl, .inl ⟨rfl, D112, sa113, sk114, _, _, _, _, (hP116).done hp, (hP116).di, (hP116).al, (hP116).stp, (hP116).cp, H⟩⟩
     ·
      have H := H.back (M1 := ((jb, .cells #[.P db 0, .string nm, .slice ab V.B.length cb, .slice aR (recsV D0 V).length cR, .I ((gV V : Nat) : Int), .string (⟨#[]⟩ : ByteArray), .slice none 0 0, .bool true] 41 (0, 0)) :: diskM db D sa sk)) (W1 := [⟨stepS, 143, .slice sa D.steps.length sk, D.steps⟩]) H'
      have H := H.perms (M' := ((eb115, .cells #[.I 70] 204 (0, 0)) :: (jb, .cells #[.P db 0, .string nm, .slice ab V.B.length cb, .slice aR (recsV D0 V).length cR, .I ((gV V : Nat) : Int), .string (⟨#[]⟩ : ByteArray), .slice none 0 0, .bool true] 41 (0, 0)) :: (diskM db D112 sa113 sk114))) (W' := [⟨stepS, 143, .slice sa113 D112.steps.length sk114, D112.steps⟩, ⟨SB, 23, .slice aR (recsV D0 V).length cR, recsV D0 V⟩, ⟨Shape.int .i64, 3, .slice aS ((sn.map fun n : Nat => (n : Int)).length) cS, (sn.map fun n : Nat => (n : Int))⟩]) (((List.perm_append_comm (l₁ := ([] : Heap)) (l₂ := diskM db D112 sa113 sk114)).cons _).cons _) (List.Perm.refl _)
      have H : Hp w S O ((eb115, .cells #[.I 70] 204 (0, 0)) :: (jb, .cells #[.P db 0, .string nm, .slice ab V.B.length cb, .slice aR (recsV D0 V).length cR, .I ((gV V : Nat) : Int), .string (⟨#[]⟩ : ByteArray), .slice none 0 0, .bool true] 41 (0, 0)) :: (diskM db D112 sa113 sk114)) [⟨stepS, 143, .slice sa113 D112.steps.length sk114, D112.steps⟩, ⟨SB, 23, .slice aR (recsV D0 V).length cR, recsV D0 V⟩, ⟨Shape.int .i64, 3, .slice aS ((sn.map fun n : Nat => (n : Int)).length) cS, (sn.map fun n : Nat => (n : Int))⟩] [Rp (Shape.slice Shape.str) [.slice a38 ns40.length c39] ns40, Rp SB [.slice ab V.B.length cb] V.B, Fz jQ] _ := H
      refine qF 1 [(2, .iface 200 (.P eb115 0))] ?_
      refine qT (.iface 200 (.P eb115 0)) Tryz.func52 ?_
      have H := H.pick [] rfl
      have H := H.drop (M' := ((eb115, .cells #[.I 70] 204 (0, 0)) :: (jb, .cells #[.P db 0, .string nm, .slice ab V.B.length cb, .slice aR (recsV D0 V).length cR, .I ((gV V : Nat) : Int), .string (⟨#[]⟩ : ByteArray), .slice none 0 0, .bool true] 41 (0, 0)) :: (diskM db D112 sa113 sk114))) (W' := [⟨stepS, 143, .slice sa113 D112.steps.length sk114, D112.steps⟩]) (by repeat (first | exact List.Sublist.refl _ | exact List.nil_sublist _ | apply List.Sublist.cons_cons | apply List.Sublist.cons)) (by repeat (first | exact List.Sublist.refl _ | exact List.nil_sublist _ | apply List.Sublist.cons_cons | apply List.Sublist.cons))
      exact ⟨_, rfl, .inr ⟨eb115, _, _, _, _, _, _, D112, sa113, sk114, rfl, (hQ117).mono (Nat.le_max_right _ _) fun B lo hi h => .inr (by have h9 := h; rw [fixV_hi] at h9; exact h9), H⟩⟩
end Go.Proofs.YtdnibpclkhenmaaGreatDoor
