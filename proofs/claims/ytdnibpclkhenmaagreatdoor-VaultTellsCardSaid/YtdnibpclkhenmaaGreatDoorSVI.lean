import Derived.Test.YtdnibpclkhenmaaGreatDoorSBxB
import Derived.Test.YtdnibpclkhenmaaGreatDoorSVG
import Derived.Test.YtdnibpclkhenmaaGreatDoorSJX
import Derived.Test.YtdnibpclkhenmaaGreatDoorSBxA
namespace Go.Proofs.YtdnibpclkhenmaaGreatDoor
open Go.BX
set_option maxHeartbeats 1000000 in
theorem vprep_own {S : Nat → Prop} {w : World} {O : List Nat} {vb jb db mb g : Nat} {nm seg : ByteArray} {σ : List (BitVec 8)} {ab ar aσ : Option Addr} {cb cr cσ n m t q c : Nat} {quota : Int} {L : VL} {ds : List Deed} {D0 : DiskD} {sa0 : Option Addr} {sk0 : Nat} {C : Chk} {ax : Option Addr} {cx : Nat} (hW : JW D0 nm [] (ds.map encD) (ds.map encD) g seg σ true n m t q c) (hna : D0.armed = false) (hL : cont L = (runD ds).1) (hall : allD ds) (hn : 700000 ≤ n) (hm : m ≤ 60000) (ht : t ≤ 3000000) (hc : c + 3 ≤ 256) (hdl : ds.length < 256) (hC : HdrOk C.head) (hw : wholeE C.head C.data = 0) (hf0 : mfind C.head.id (runD ds).1 = none) (hq : (usedL (runD ds).1 : Int) + ((C.data.length : Nat) : Int) ≤ quota) (H0 : Hp w S O ((vb, .cells #[.P jb 0, .P db 0, .map (some mb), .I quota, .I (usedL (runD ds).1 : Int), .I (ds.length : Int)] 119 (0, 0)) :: (mb, mapO cidV veV L ((runD ds).2)) :: (jb, .cells #[.P db 0, .string nm, .slice ab (([] : List (BitVec 8)).length) cb, .slice ar (ds.map encD).length cr, .I g, .string seg, .slice aσ σ.length cσ, .bool true] 41 (0, 0)) :: (diskM db D0 sa0 sk0)) [⟨Sb, 5, .slice ax C.data.length cx, C.data⟩, ⟨SB, 23, .slice ar (ds.map encD).length cr, (ds.map encD)⟩, ⟨stepS, 143, .slice sa0 D0.steps.length sk0, D0.steps⟩] [Rp SB [.slice ab (([] : List (BitVec 8)).length) cb] ([] : List (BitVec 8)), Rp SB [.slice aσ σ.length cσ] σ, Fall L, Fz jQ] w) :
 Calls Tryz.prog 39 #[.P vb 0, .agg #[.int .u64 C.head.id.version, .I C.head.id.index, .int .u64 C.head.id.epoch, .I C.head.kk, .I C.head.nn, .I C.head.size, .int .u32 ((C.head.sum.toNat : Nat) : Int), .slice ax C.data.length cx, .bool C.done_]] w (Ret fun v w' => v = .I 0 ∧ ∃ (D' : DiskD) (sa' : Option Addr) (sk' g' : Nat) (seg' : ByteArray) (σ' : List (BitVec 8)) (ar' : Option Addr) (cr' : Nat) (aσ' : Option Addr) (cσ' : Nat) (L' : VL), JW D' nm [] ((ds ++ [(Deed.prep ⟨C.head, C.data, false⟩)]).map encD) ((ds ++ [(Deed.prep ⟨C.head, C.data, false⟩)]).map encD) g' seg' σ' true (n - 600000) (m + 2) (t + (encD (Deed.prep ⟨C.head, C.data, false⟩)).length + 12) q (c + 2) ∧ D'.armed = false ∧ cont L' = (runD (ds ++ [(Deed.prep ⟨C.head, C.data, false⟩)])).1 ∧ Hp w S O ((vb, .cells #[.P jb 0, .P db 0, .map (some mb), .I quota, .I (usedL (runD (ds ++ [(Deed.prep ⟨C.head, C.data, false⟩)])).1 : Int), .I ((ds ++ [(Deed.prep ⟨C.head, C.data, false⟩)]).length : Int)] 119 (0, 0)) :: (mb, mapO cidV veV L' ((runD (ds ++ [(Deed.prep ⟨C.head, C.data, false⟩)])).2)) :: (jb, .cells #[.P db 0, .string nm, .slice ab (([] : List (BitVec 8)).length) cb, .slice ar' (((ds ++ [(Deed.prep ⟨C.head, C.data, false⟩)]).map encD).length) cr', .I g', .string seg', .slice aσ' σ'.length cσ', .bool true] 41 (0, 0)) :: diskM db D' sa' sk') [⟨Sb, 5, .slice ax C.data.length cx, C.data⟩, ⟨SB, 23, .slice ar' (((ds ++ [(Deed.prep ⟨C.head, C.data, false⟩)]).map encD).length) cr', ((ds ++ [(Deed.prep ⟨C.head, C.data, false⟩)]).map encD)⟩, diskW D' sa' sk'] [Rp SB [.slice ab (([] : List (BitVec 8)).length) cb] ([] : List (BitVec 8)), Rp SB [.slice aσ' σ'.length cσ'] σ', Fall L'] w') := by
 obtain ⟨⟨_, _, _⟩, _, _, _⟩ := id hC
 have hf := cont_none (L := L) (by rw [hL]; exact hf0)
 obtain ⟨hsm, hus⟩ := allD_small hall
 have a := whole_len hw
 refine uS1 Tryz.func39 ?_
 have H := H0
 refine uR 1 [.c [0], .c [1]] ?_
 refine qG (sq 0 2) ?_
 refine uC #[.int .u64 C.head.id.version, .I C.head.id.index, .int .u64 C.head.id.epoch, .I C.head.kk, .I C.head.nn, .I C.head.size, .int .u32 ((C.head.sum.toNat : Nat) : Int), .slice ax C.data.length cx, .bool C.done_] 102 H ?_
 intro y _ H
 refine uF 1 ?_
 refine uR 2 [.c [1, 0, 0], .c [1, 0, 1], .c [2]] ?_
 refine qG (sq 0 3) ?_
 refine uP 1 ?_
 have H := H.frontM 3 rfl
 have H := H.frontM 3 rfl
 have H := H.frontM 3 rfl
 have H := H.frontW 2 rfl
 have H := H.frontW 2 rfl
 have H := H.gat 3 1
 refine uKS (vstate_spec (ds := ds) hW hna hL hall ((H.lend (M1 := (_ :: _ :: _ :: (diskM _ _ _ _))) (W1 := [_, _])).pick [0, 1, 2, 3] rfl)) ?_
 rintro _ _ ⟨rfl, H'⟩
 have H := H.back (M1 := (_ :: _ :: _ :: (diskM _ _ _ _))) (W1 := [_, _]) H'
 have H := H.ung 3
 have H : Hp w S O (_ :: _ :: _ :: _ :: _) [_, _, _] [_, _, _, _] _ := H
 refine uF 1 ?_
 refine uR 6 [.c [2, 0, 0], .c [2, 0, 1], .c [3]] ?_
 refine qG (sq 0 3) ?_
 refine uV 102 0 (H.cells 3 rfl) ?_
 refine qK .seq (some 15) (sq 2 3) 37 #[.agg #[.int .u64 C.head.id.version, .I C.head.id.index, .int .u64 C.head.id.epoch, .I C.head.kk, .I C.head.nn, .I C.head.size, .int .u32 ((C.head.sum.toNat : Nat) : Int), .slice ax C.data.length cx, .bool C.done_]] (whole_spec (C := C) (chk_mk (hdr_mk (cid_mk u64a i64a u64a) i64a i64a i64a Shape.bv_mk) (H.view 2 rfl) Shape.bool_mk)) ?_
 rintro _ _ Y rfl
 have H := H.ext Y
 refine uF 1 ?_
 refine uR 2 [.c [2, 0, 2], .c [3]] ?_
 refine qN (wholeE C.head C.data) 0 (fun Z => ?_) (fun Z => ?_)
 ·
  exact absurd hw Z
 ·
  refine uR 3 [.c [3, 0, 0], .c [3, 0, 1], .c [4]] ?_
  refine WK.drawH1 [] (.leaf [(0, .qui), (1, .qui), (2, .qui), (3, .qui), (4, .qui), (5, .qui), (6, .qui), (7, .qui), (8, .qui), (9, .qui), (10, .qui), (11, .seq), (12, .seq), (13, .qui)]) Tryz_mixed (by as_aux_lemma => kernel_rfl) (by as_aux_lemma => kernel_rfl) ?_
  intro w7 J
  have H := H.draw
  rw [← J] at H
  clear J
  have hS := Chg.refl w7 []
  refine RG.leaf' [(0, .qui), (1, .qui), (2, .qui), (3, .qui), (4, .qui), (5, .qui), (6, .qui), (7, .qui), (8, .qui), (9, .qui), (10, .qui), (11, .seq), (12, .seq), (13, .qui)] (by as_aux_lemma => kernel_rfl) ?_
  refine uHP hS 3 ?_
  refine uHV 117 2 hS (H.cells 0 rfl) nq0 ?_
  refine uHP hS 2 ?_
  refine uHV 82 0 hS (H.cells 3 rfl) nq0 ?_
  refine RH.mapGetF (d := some 27) (r := [(8, .qui), (9, .qui), (10, .qui), (11, .seq), (12, .seq), (13, .qui)]) (T := 117) (mk := cidV) (vk := veV) (Kt := 82) (E := 102) (z := zVE) C.head.id true none (v := .tuple #[.agg #[.int .u64 0, .I 0, .int .u64 0, .I 0, .I 0, .I 0, .int .u32 (((0#32).toNat : Nat) : Int), .slice none 0 0, .bool false], .bool false]) (by as_aux_lemma => kernel_rfl) hS H 1 rfl (cid_key) (by as_aux_lemma => kernel_rfl) (fun w_ => zeroE_run (by as_aux_lemma => kernel_rfl) w_) (hf) rfl ?_
  refine uHP hS 3 ?_
  have Hr := H
  refine RH.chn hS ?_
  refine RW.newC (κ := .chn) (d := some 7) (r := []) (o := .cells #[.int .u64 0, .I 0, .int .u64 0, .I 0, .I 0, .I 0, .int .u32 0, .slice none 0 0, .bool false] 102 (0, 0)) (v := fun b => .P b 0) (fun b => by as_aux_lemma => kernel_rfl) (nofun) H ?_
  intro i _ V H
  have A := Nat.le_trans hS.size V
  intro hS
  refine RH.sto ?_
  refine qWC 102 i 0 [] (.agg #[.int .u64 0, .I 0, .int .u64 0, .I 0, .I 0, .I 0, .int .u32 (((0#32).toNat : Nat) : Int), .slice none 0 0, .bool false]) ((i, .cells #[.int .u64 0, .I 0, .int .u64 0, .I 0, .I 0, .I 0, .int .u32 (((0#32).toNat : Nat) : Int), .slice none 0 0, .bool false] 102 (0, 0)) :: (vb, .cells #[.P jb 0, .P db 0, .map (some mb), .I quota, .I (usedL (runD ds).1 : Int), .I (ds.length : Int)] 119 (0, 0)) :: (mb, mapO cidV veV L ((runD ds).2)) :: (jb, .cells #[.P db 0, .string nm, .slice ab (([] : List (BitVec 8)).length) cb, .slice ar (ds.map encD).length cr, .I g, .string seg, .slice aσ σ.length cσ, .bool true] 41 (0, 0)) :: (y, .cells #[.int .u64 C.head.id.version, .I C.head.id.index, .int .u64 C.head.id.epoch, .I C.head.kk, .I C.head.nn, .I C.head.size, .int .u32 ((C.head.sum.toNat : Nat) : Int), .slice ax C.data.length cx, .bool C.done_] 102 (0, 0)) :: (diskM db D0 sa0 sk0)) H 0 rfl rfl ?_
  intro K B H
  have j := hS.sto B (.inl A)
  refine ⟨j, ?_⟩
  have hS := j
  refine uHF hS 1 ?_
  refine uR 6 [.c [4, 0, 0], .c [4, 0, 1], .c [5]] ?_
  refine WK.draw1 13 (qs [0, 1, 2, 3, 4, 5, 6, 7, 8, 9, 10, 11, 12]) (qs [0, 1, 2, 3, 4, 5, 6, 7, 8, 9, 10, 11, 12]) Tryz_mixed (by as_aux_lemma => kernel_rfl) (by as_aux_lemma => kernel_rfl) (by as_aux_lemma => kernel_rfl) ?_
  have H := H.draw
  generalize ({ K with drawn := K.drawn + 1 } : World) = d0 at H ⊢
  refine uP 3 ?_
  refine uV 3 4 (H.cells 1 rfl) ?_
  refine uP 1 ?_
  refine uV 23 7 (H.cells 4 rfl) ?_
  refine qP 1 (qs [7, 8, 9, 10, 11, 12]) [(0, .P vb 0), (3, .P y 0), (46, .I (usedL (runD ds).1 : Int)), (49, .I ((C.data.length : Nat) : Int))] ?_
  refine uI ((usedL (runD ds).1 : Int) + ((C.data.length : Nat) : Int)) ?_
  refine uP 3 ?_
  refine uV 3 3 (H.cells 1 rfl) ?_
  refine uF 1 ?_
  refine qD (((usedL (runD ds).1 : Int) + ((C.data.length : Nat) : Int) : Int) > quota) (fun a0 => ?_) (fun a0 => ?_)
  ·
   omega
  ·
   refine uR 2 [.c [5, 0], .c [6]] ?_
   refine qG (sq 0 2) ?_
   refine uP 1 ?_
   refine qW 4 y 8 (sq 2 2) (.bool false) ((i, .cells #[.int .u64 0, .I 0, .int .u64 0, .I 0, .I 0, .I 0, .int .u32 (((0#32).toNat : Nat) : Int), .slice none 0 0, .bool false] 102 (0, 0)) :: (vb, .cells #[.P jb 0, .P db 0, .map (some mb), .I quota, .I (usedL (runD ds).1 : Int), .I (ds.length : Int)] 119 (0, 0)) :: (mb, mapO cidV veV L ((runD ds).2)) :: (jb, .cells #[.P db 0, .string nm, .slice ab (([] : List (BitVec 8)).length) cb, .slice ar (ds.map encD).length cr, .I g, .string seg, .slice aσ σ.length cσ, .bool true] 41 (0, 0)) :: (y, .cells #[.int .u64 C.head.id.version, .I C.head.id.index, .int .u64 C.head.id.epoch, .I C.head.kk, .I C.head.nn, .I C.head.size, .int .u32 ((C.head.sum.toNat : Nat) : Int), .slice ax C.data.length cx, .bool false] 102 (0, 0)) :: (diskM db D0 sa0 sk0)) H 4 rfl rfl ?_
   intro M H
   refine uF 0 ?_
   refine uR 1 [.c [6, 0], .c [7]] ?_
   refine WK.draw1 4 [(0, .qui), (2, .qui), (1, .chn), (3, .chn)] [(0, .qui), (2, .qui), (1, .chn), (3, .chn), (4, .seq), (5, .seq)] Tryz_mixed (by as_aux_lemma => kernel_rfl) (by as_aux_lemma => kernel_rfl) (by as_aux_lemma => kernel_rfl) ?_
   have H := H.draw
   generalize ({ M with drawn := M.drawn + 1 } : World) = e0 at H ⊢
   refine uP 1 ?_
   refine uV 102 0 (H.cells 4 rfl) ?_
   have H := H.add (F := Rp SB [.slice none 0 0] ([] : List (BitVec 8))) Shape.slice_nil
   refine uK (putnum_spec (xs := ([] : List (BitVec 8))) (H.rp 0 rfl) 0 (by omega) (by first | omega | simp only [List.length_append, List.length_nil, List.length_cons]; omega)) ?_
   rintro _ _ - H'
   have H := H.back (M1 := []) (W1 := []) H'
   obtain ⟨N, Q, rfl, _, _⟩ := H.ownForm 0 rfl
   have H : Hp w S O (_ :: _ :: _ :: _ :: _ :: _) [⟨Sb, 5, .slice N ((([] : List (BitVec 8)) ++ num 0).length) Q, (([] : List (BitVec 8)) ++ num 0)⟩, _, _, _] [_, _, _, _, _] _ := H
   have H : Hp w S O (_ :: _ :: _ :: _ :: _ :: _) [_, _, _] [Rp SB [.slice N ((([] : List (BitVec 8)) ++ num 0).length) Q] (([] : List (BitVec 8)) ++ num 0), _, _, _, _, _] _ := H.freezeW 0 rfl
   refine uK (vput_spec (S := fun _ => True) (xs := (([] : List (BitVec 8)) ++ num 0)) (H.viewR 0 rfl) (C := ⟨C.head, C.data, false⟩) ⟨hC, a⟩ (H.view 2 rfl) (by have := @num_ten 0 (by omega); simp only [List.length_append, List.length_nil]; omega)) ?_
   rintro _ _ - H'
   have H := H.back (M1 := []) (W1 := []) (Hp.reS H')
   obtain ⟨k, l, rfl, _, _⟩ := H.ownForm 0 rfl
   have H : Hp w S O (_ :: _ :: _ :: _ :: _ :: _) [⟨Sb, 5, .slice k (((([] : List (BitVec 8)) ++ num 0) ++ chkE ⟨C.head, C.data, false⟩).length) l, ((([] : List (BitVec 8)) ++ num 0) ++ chkE ⟨C.head, C.data, false⟩)⟩, _, _, _] [_, _, _, _, _, _] _ := H
   have H : Hp w S O (_ :: _ :: _ :: _ :: _ :: _) [_, _, _] [Rp SB [.slice k (((([] : List (BitVec 8)) ++ num 0) ++ chkE ⟨C.head, C.data, false⟩).length) l] ((([] : List (BitVec 8)) ++ num 0) ++ chkE ⟨C.head, C.data, false⟩), _, _, _, _, _, _] _ := H.freezeW 0 rfl
   have R : ((([] : List (BitVec 8)) ++ num 0) ++ chkE ⟨C.head, C.data, false⟩) = encD (Deed.prep ⟨C.head, C.data, false⟩) := rfl
   rw [R] at H
   rw [R]
   have H : Hp w S O (_ :: _ :: _ :: _ :: _ :: _) [_, _, _] [Rp SB [.slice k ((encD (Deed.prep ⟨C.head, C.data, false⟩)).length) l] (encD (Deed.prep ⟨C.head, C.data, false⟩)), _, _, _, _, _, _] _ := H
   have H := H.frontM 3 rfl
   have H := H.frontM 3 rfl
   have H := H.frontM 3 rfl
   have H := H.frontW 1 rfl
   have H := H.frontW 1 rfl
   have H := H.gat 3 2
   refine uKS (vsave_spec (ds := ds) (d := (Deed.prep ⟨C.head, C.data, false⟩)) hW hna hL hall (by omega) (by omega) (by omega) (by omega) (by omega) ⟨hf0, hC, a⟩ ((H.lend (M1 := (_ :: _ :: _ :: (diskM _ _ _ _))) (W1 := [_, _])).pick [3, 4, 5, 6, 0] rfl)) ?_
   rintro _ _ ⟨rfl, h, e, f, b0, D, σ38, p, s, u, x, U, W, G, X, H'⟩
   have c0 := allD_snoc hall (d := (Deed.prep ⟨C.head, C.data, false⟩)) ⟨hf0, hC, a⟩
   have H := H.back (M1 := (_ :: _ :: _ :: (diskM _ _ _ _))) (W1 := [_, _]) H'
   have H := H.ung 3
   have H : Hp w S O (_ :: (mb, mapO cidV veV U ((runD (ds ++ [(Deed.prep ⟨C.head, C.data, false⟩)])).2)) :: (jb, .cells #[.P db 0, .string nm, .slice ab (([] : List (BitVec 8)).length) cb, .slice p (((ds ++ [(Deed.prep ⟨C.head, C.data, false⟩)]).map encD).length) s, .I b0, .string D, .slice u σ38.length x, .bool true] 41 (0, 0)) :: _ :: _ :: (diskM db h e f)) [⟨SB, 23, .slice p (((ds ++ [(Deed.prep ⟨C.head, C.data, false⟩)]).map encD).length) s, ((ds ++ [(Deed.prep ⟨C.head, C.data, false⟩)]).map encD)⟩, ⟨stepS, 143, .slice e h.steps.length f, h.steps⟩, _] [_, Rp SB [.slice u σ38.length x] σ38, Fall U, _, _, _, _, _, _, _] _ := H
   refine uF 1 ?_
   refine qT (.I 0) Tryz.func39 ?_
   have H := H.pick [0, 1, 2] rfl
   have H := H.frontM 2 rfl
   have H := H.frontM 2 rfl
   have H := H.frontM 2 rfl
   have H := H.frontM 4 rfl
   have H := H.frontM 4 rfl
   have H := H.frontW 1 rfl
   have H := H.frontW 1 rfl
   have H := H.frontW 2 rfl
   have H := H.dropM 1
   have H := H.dropM 0
   exact ⟨_, rfl, rfl, h, e, f, _, _, _, _, _, _, _, _, W, G, X, H⟩
theorem copy9_own {S : Nat → Prop} {w : World} {xs : List (BitVec 8)} {a : Option Addr} {c : Nat} (h : SB.rep S w [.slice a xs.length c] xs) (hby : xs.length ≤ 140737488355328) :
 Calls Tryz.prog 21 #[.slice a xs.length c] w (Ret fun v w' => Ext w w' ∧ ∃ (a' : Option Addr) (c' : Nat), v = .slice a' xs.length c' ∧ Hp w S [] [] [⟨Sb, 5, .slice a' xs.length c', xs⟩] [] w') := by
 refine uS1 Tryz.func21 ?_
 have H := Hp.startF (.rp h .nil)
 refine uR 3 [.c [1, 0], .c [2]] ?_
 refine qG (sq 0 4) ?_
 refine RW.new (κ := .seq) (d := some 3) (r := (sq 1 4)) (o := .cells #[] 5 (0, 0)) (v := fun b => .slice (some ⟨b, 0, none⟩) 0 0) (fun b => by as_aux_lemma => kernel_rfl) (nofun) H ?_
 intro g _ H
 refine uP 1 ?_
 have H := H.toOwn (sh := Sb) (xs := []) (cap := 0) (by rfl) (Nat.le_refl _) (Nat.zero_le _) (by simp) EsP.nil
 have H : Hp w S [] [] [⟨Sb, 5, .slice (some ⟨g, 0, none⟩) 0 0, []⟩] [_] _ := H
 refine uA 23 23 1 xs H 0 rfl 0 rfl (rfl) (by omega) ?_
 intro e f _ H _
 have H : Hp w S [] [] [⟨Sb, 5, .slice e xs.length f, xs⟩] [_] _ := H
 refine uF 1 ?_
 refine qT (.slice e xs.length f) Tryz.func21 ?_
 exact ⟨_, rfl, H.done, _, _, rfl, H.pick [] rfl⟩
end Go.Proofs.YtdnibpclkhenmaaGreatDoor
