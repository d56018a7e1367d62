import Derived.Test.YtdnibpclkhenmaaGreatDoorSBxB
import Derived.Test.YtdnibpclkhenmaaGreatDoorSVF
import Derived.Test.YtdnibpclkhenmaaGreatDoorSJM
namespace Go.Proofs.YtdnibpclkhenmaaGreatDoor
open Go.BX
theorem bit1_zero {c : BitVec 32} (h : bit1 c = 0#32) : c = 0#32 := by
 rw [bit1_eq] at h
 have a := congrArg (fun x : BitVec 32 => x.getLsbD 31) h
 have hl : c.getLsbD 0 = false := by
  cases hc : c.getLsbD 0
  · rfl
  · rw [hc] at a
    simp at a
 rw [hl] at h
 simp only [Bool.false_eq_true, if_false, BitVec.xor_zero] at h
 apply BitVec.eq_of_getLsbD_eq
 intro i hi
 rw [BitVec.getLsbD_zero]
 cases i with
 | zero => exact hl
 | succ j =>
  have := congrArg (fun x : BitVec 32 => x.getLsbD j) h
  simpa [BitVec.getLsbD_ushiftRight, Nat.add_comm] using this
theorem bits_nil : ∀ n : Nat, bits n 0#32 = 0#32
 | 0 => rfl
 | n + 1 => by
  show bit1 (bits n 0#32) = _
  rw [bits_nil n]; decide
theorem bits_zero : ∀ (n : Nat) {c : BitVec 32}, bits n c = 0#32 → c = 0#32
 | 0, _, h => h
 | n + 1, _, h => bits_zero n (bit1_zero h)
theorem crcStep_xor (a b : BitVec 32) (x y : BitVec 8) : crcStep (a ^^^ b) (x ^^^ y) = crcStep a x ^^^ crcStep b y := by
 unfold crcStep
 rw [← bits_xor, BitVec.setWidth_xor]
 congr 1
 ac_rfl
theorem crcStep_nil (c : BitVec 32) : crcStep c 0#8 = bits 8 c := by
 unfold crcStep
 rw [show (0#8).setWidth 32 = 0#32 from rfl, BitVec.xor_zero]
theorem fold_xor : ∀ (xs ys : List (BitVec 8)) (a b : BitVec 32), xs.length = ys.length → xs.foldl crcStep a ^^^ ys.foldl crcStep b = (List.zipWith (· ^^^ ·) xs ys).foldl crcStep (a ^^^ b)
 | [], [], _, _, _ => rfl
 | x :: xs, y :: ys, a, b, h => by
  simp only [List.foldl_cons, List.zipWith_cons_cons]
  rw [crcStep_xor, fold_xor xs ys _ _ (Nat.succ.inj h)]
theorem crcF_inj {xs ys : List (BitVec 8)} (hl : xs.length = ys.length) (h : crcF xs = crcF ys) : (List.zipWith (· ^^^ ·) xs ys).foldl crcStep 0#32 = 0#32 := by
 unfold crcF at h
 have b : xs.foldl crcStep 4294967295#32 = ys.foldl crcStep 4294967295#32 := by
  have := congrArg (fun x => ~~~ x) h
  simpa using this
 have a := fold_xor xs ys 4294967295#32 4294967295#32 hl
 rw [b, BitVec.xor_self, BitVec.xor_self] at a
 exact a.symm
theorem fold_zero : ∀ (xs : List (BitVec 8)) {c : BitVec 32}, (∀ x ∈ xs, x = 0#8) → xs.foldl crcStep c = 0#32 → c = 0#32
 | [], _, _, h => h
 | x :: xs, c, hx, h => by
  have h2 := fold_zero xs (fun y hy => hx y (List.mem_cons_of_mem _ hy)) h
  rw [hx x List.mem_cons_self, crcStep_nil] at h2
  exact bits_zero 8 h2
theorem crc_turn : ∀ (xs : List (BitVec 8)) (i : Nat) (b : BitVec 8), i < xs.length → (List.zipWith (· ^^^ ·) xs (xs.set i (xs.getD i 0#8 ^^^ b))).foldl crcStep 0#32 = 0#32 → b = 0#8
 | [], _, _, h, _ => absurd h (Nat.not_lt_zero _)
 | x :: xs, 0, b, _, h => by
  simp only [List.set_cons_zero, List.getD_cons_zero, List.zipWith_cons_cons, List.foldl_cons] at h
  have h3 := fold_zero _ (by
   intro z hz
   obtain ⟨i, hi, rfl⟩ := List.mem_iff_getElem.1 hz
   simp) h
  unfold crcStep at h3
  have h4 := bits_zero 8 h3
  rw [BitVec.zero_xor, show x ^^^ (x ^^^ b) = b by rw [← BitVec.xor_assoc, BitVec.xor_self, BitVec.zero_xor]] at h4
  have := congrArg (BitVec.setWidth 8) h4
  simpa using this
 | x :: xs, i + 1, b, hi, h => by
  simp only [List.set_cons_succ, List.getD_cons_succ, List.zipWith_cons_cons, List.foldl_cons, BitVec.xor_self] at h
  rw [crcStep_nil, bits_nil] at h
  exact crc_turn xs i b (Nat.lt_of_succ_lt_succ hi) h
theorem one_bit (k : Nat) : 1#8 <<< (k % 8) ≠ 0#8 := by
 have h : k % 8 < 8 := Nat.mod_lt _ (by decide)
 have : ∀ j, j < 8 → 1#8 <<< j ≠ 0#8 := by decide
 exact this _ h
theorem crc_turned {x : List (BitVec 8)} {bit : Nat} (h : bit / 8 < x.length) : crcF (turnB x bit) ≠ crcF x := fun e =>
 one_bit bit (crc_turn x (bit / 8) _ h (crcF_inj (by show _ = (turnB x bit).length; rw [turnB_len]) e.symm))
theorem whole_bits {h : Hdr} {x : List (BitVec 8)} (hw : wholeE h x = 0) : ((h.sum.toNat : Nat) : Int) = (((crcF x).toNat : Nat) : Int) := by
 unfold wholeE at hw
 split at hw
 · exact absurd hw (by decide)
 · split at hw
   · exact absurd hw (by decide)
   · split at hw
     · exact absurd hw (by decide)
     · rename_i h3; omega
theorem whole_turned {h : Hdr} {x : List (BitVec 8)} {bit : Nat} (hw : wholeE h x = 0) (hb : bit / 8 < x.length) : wholeE h (turnB x bit) ≠ 0 := fun h2 => by
 have e1 := whole_bits hw
 have e2 := whole_bits h2
 exact crc_turned hb (BitVec.eq_of_toNat_eq (by omega))
theorem one_prep {ds : List Deed} {n : Nat} (h : runD ds = ([], n)) (c : Chk) : runD (ds ++ [.prep c]) = ([(c.head.id, c, n)], n + 1) := by
 rw [runD_snoc, h]
 rfl
theorem one_turn {ds : List Deed} {id : CID} {c : Chk} {k n : Nat} (h : runD ds = ([(id, c, k)], n)) (bit : Nat) : runD (ds ++ [.turn id bit]) = ([(id, { c with data := turnB c.data bit }, k)], n) := by
 rw [runD_snoc, h]
 simp [stepD, mfind, mset, mclk]
theorem one_drop {ds : List Deed} {id : CID} {c : Chk} {k n : Nat} (h : runD ds = ([(id, c, k)], n)) : runD (ds ++ [.drop id]) = ([], n) := by
 rw [runD_snoc, h]
 simp [stepD, mdel]
theorem one_find {ds : List Deed} {id : CID} {c : Chk} {k n : Nat} (h : runD ds = ([(id, c, k)], n)) : mfind id (runD ds).1 = some c := by rw [h]; exact if_pos rfl
theorem none_find {ds : List Deed} {id : CID} {n : Nat} (h : runD ds = ([], n)) : mfind id (runD ds).1 = none := by rw [h]; rfl
theorem none_used {ds : List Deed} {n : Nat} (h : runD ds = ([], n)) : usedL (runD ds).1 = 0 := by rw [h]; rfl
theorem scrub_one {L : VL} {ds : List Deed} {id : CID} {c : Chk} {k n : Nat} {ids : List CID} (h : runD ds = ([(id, c, k)], n)) (hL : cont L = (runD ds).1) (hp : ids.Perm (L.map (·.1))) (hw : wholeE c.head c.data ≠ 0) : ids.filter (rotL (cont L)) = [id] := by
 have a : L.map (·.1) = [id] := by rw [← cont_keys, hL, h]; rfl
 rw [a] at hp
 have b := List.perm_singleton.1 hp
 have d : rotL (cont L) id = true := by
  rw [rotL_some (show mfind id (cont L) = some c by rw [hL]; exact one_find h)]
  exact decide_eq_true hw
 rw [b]
 simp [d]
theorem step_len (s : VS) (d : Deed) : (stepD s d).1.length ≤ s.1.length + 1 := by
 have hs : ∀ (x : CID) (v : Chk) (n : Nat), (mset x v n s.1).length ≤ s.1.length + 1 := fun x v n => by
  rw [mset_len]
  split <;> omega
 cases d with
 | prep c => exact hs _ _ _
 | settle id =>
  simp only [stepD]
  cases mfind id s.1 with
  | none => exact Nat.le_succ _
  | some c => exact hs _ _ _
 | drop id => exact Nat.le_succ_of_le (mdel_sub id s.1).length_le
 | turn id bit =>
  simp only [stepD]
  cases mfind id s.1 with
  | none => exact Nat.le_succ _
  | some c => exact hs _ _ _
theorem runD_len (ds : List Deed) : (runD ds).1.length ≤ ds.length := by
 have : ∀ (l : List Deed) (s : VS), (l.foldl stepD s).1.length ≤ s.1.length + l.length := by
  intro l
  induction l with
  | nil => exact fun s => Nat.le_refl _
  | cons d l ih =>
   intro s
   have a := ih (stepD s d)
   have b := step_len s d
   rw [List.foldl_cons, List.length_cons]
   omega
 have h := this ds ([], 0)
 rw [show (([], 0) : VS).1.length = 0 from rfl, Nat.zero_add] at h
 exact h
theorem vkeys_ok {L : VL} {ds : List Deed} (hL : cont L = (runD ds).1) (hall : allD ds) (hlen : ds.length ≤ 1000) : MOk L (runD ds).2 ∧ (∀ x ∈ L, CidOk x.1) ∧ L.length ≤ 1048576 ∧ ∀ {id : CID} {c : Chk} {a : Option Addr} {k : Nat}, mfind id L = some ⟨c, a, k⟩ → ChkOk c := by
 have hr := runD_ok ds
 have hsm := (allD_small hall).1
 refine ⟨cont_ok (by rw [hL]; exact hr.1), fun x hx => ?_, ?_, fun {id c a k} h => ?_⟩
 · have hm : (x.1, x.2.1.c, x.2.2) ∈ (runD ds).1 := by rw [← hL]; exact List.mem_map.2 ⟨x, hx, rfl⟩
   have b := hr.2 _ hm
   have d := (hsm _ hm).1.1
   rw [b] at d
   exact d
 · have b : (cont L).length = L.length := List.length_map ..
   have d := runD_len ds
   rw [← b, hL]
   omega
 · exact hsm.find (x := id) (by rw [← hL, cont_find, h]; rfl)
def h09 : Hdr := ⟨⟨1, 0, 0⟩, 1, 1, 2, crcF [1#8, 2#8]⟩
theorem h09_ok : HdrOk h09 := by
 refine ⟨⟨?_, ?_, ?_⟩, ?_, ?_, ?_⟩ <;> (unfold h09; constructor <;> decide)
theorem h09_whole : wholeE h09 [1#8, 2#8] = 0 := by
 unfold wholeE
 rw [if_neg (by decide), if_neg (by decide), if_neg (fun h => h rfl)]
theorem heads_one : headsOf ⟨1, 0, 0⟩ 2 1 [[1#8, 2#8]] = [h09] := rfl
theorem plainV : PlainN (⟨#[118]⟩ : ByteArray) := ⟨⟨by decide, by decide⟩, by decide⟩
theorem same9_spec {S : Nat → Prop} {w : World} {C : Chk} {a1 a2 : Option Addr} {c1 c2 : Nat} (h1 : (Rp SB [.slice a1 C.data.length c1] C.data).p S w) (h2 : (Rp SB [.slice a2 C.data.length c2] C.data).p S w) :
 Calls Tryz.prog 47 #[.agg #[.int .u64 C.head.id.version, .I C.head.id.index, .int .u64 C.head.id.epoch, .I C.head.kk, .I C.head.nn, .I C.head.size, .int .u32 ((C.head.sum.toNat : Nat) : Int), .slice a1 C.data.length c1, .bool C.done_], .agg #[.int .u64 C.head.id.version, .I C.head.id.index, .int .u64 C.head.id.epoch, .I C.head.kk, .I C.head.nn, .I C.head.size, .int .u32 ((C.head.sum.toNat : Nat) : Int), .slice a2 C.data.length c2, .bool C.done_]] w (Ret fun v w' => Ext w w' ∧ v = .bool true) := by
 refine uS1 Tryz.func47 ?_
 have H := Hp.startF (w := w) (S := S) (G := [Rp SB [.slice a1 C.data.length c1] C.data, Rp SB [.slice a2 C.data.length c2] C.data]) (.rp h1 (.rp h2 .nil))
 refine uR 1 [.c [0], .c [1]] ?_
 refine qG (sq 0 3) ?_
 refine uC #[.int .u64 C.head.id.version, .I C.head.id.index, .int .u64 C.head.id.epoch, .I C.head.kk, .I C.head.nn, .I C.head.size, .int .u32 ((C.head.sum.toNat : Nat) : Int), .slice a1 C.data.length c1, .bool C.done_] 102 H ?_
 intro _ _ H
 refine uC #[.int .u64 C.head.id.version, .I C.head.id.index, .int .u64 C.head.id.epoch, .I C.head.kk, .I C.head.nn, .I C.head.size, .int .u32 ((C.head.sum.toNat : Nat) : Int), .slice a2 C.data.length c2, .bool C.done_] 102 H ?_
 intro f _ H
 refine uF 1 ?_
 refine uR 1 [.c [1, 0], .c [2]] ?_
 refine qG (sq 0 20) ?_
 refine uP 1 ?_
 refine uV 100 0 (H.cells 1 rfl) ?_
 refine uP 1 ?_
 refine uV 100 0 (H.cells 0 rfl) ?_
 refine RW.eqA (κ := .seq) (d := some 9) (r := (sq 5 20)) (T := 100) (xs := #[.int .u64 C.head.id.version, .I C.head.id.index, .int .u64 C.head.id.epoch, .I C.head.kk, .I C.head.nn, .I C.head.size, .int .u32 ((C.head.sum.toNat : Nat) : Int)]) (ys := #[.int .u64 C.head.id.version, .I C.head.id.index, .int .u64 C.head.id.epoch, .I C.head.kk, .I C.head.nn, .I C.head.size, .int .u32 ((C.head.sum.toNat : Nat) : Int)]) (ox := (.tmp 6)) (oy := (.tmp 8)) [((C.head.id.version : Int) == C.head.id.version), ((C.head.id.index : Int) == C.head.id.index), ((C.head.id.epoch : Int) == C.head.id.epoch), ((C.head.kk : Int) == C.head.kk), ((C.head.nn : Int) == C.head.nn), ((C.head.size : Int) == C.head.size), ((((C.head.sum.toNat : Nat) : Int) : Int) == ((C.head.sum.toNat : Nat) : Int))] (by as_aux_lemma => kernel_rfl) (by as_aux_lemma => kernel_rfl) (by as_aux_lemma => kernel_rfl) ?_
 refine uP 1 ?_
 refine uT 10 ([((C.head.id.version : Int) == C.head.id.version), ((C.head.id.index : Int) == C.head.id.index), ((C.head.id.epoch : Int) == C.head.id.epoch), ((C.head.kk : Int) == C.head.kk), ((C.head.nn : Int) == C.head.nn), ((C.head.size : Int) == C.head.size), ((((C.head.sum.toNat : Nat) : Int) : Int) == ((C.head.sum.toNat : Nat) : Int))].all id) (fun a => ?_) (fun a => ?_)
 ·
  refine uP 1 ?_
  refine uV 4 8 (H.cells 1 rfl) ?_
  refine uP 1 ?_
  refine uV 4 8 (H.cells 0 rfl) ?_
  refine uP 3 ?_
  refine uE 17 C.done_ C.done_ (fun b => ?_) (fun b => ?_)
  ·
   refine uP 1 ?_
   refine uV 23 7 (H.cells 1 rfl) ?_
   refine qP 1 (sq 16 20) [(17, .bool true), (19, .slice a1 C.data.length c1), (20, .P f 7)] ?_
   refine uV 23 7 (H.cells 0 rfl) ?_
   refine uK (same01N (S := fun _ => True) (xs := C.data) (ys := C.data) (H.viewR 0 rfl) (H.viewR 1 rfl)) ?_
   rintro _ _ e rfl
   have H := H.ext e
   rw [sameB_eq (rfl)]
   refine uF 2 ?_
   refine qT (.bool true) Tryz.func47 ?_
   exact ⟨_, rfl, H.done, rfl⟩
  ·
   (simp at b)
 ·
  (rw [hdr_eqb] at a; simp at a)
set_option maxHeartbeats 4000000 in
theorem heads9_spec {S : Nat → Prop} {w : World} (hq : (Fz jQ).p S w) :
 Calls Tryz.prog 38 #[] w (Ret fun v w' => Ext w w' ∧ v = .bool true) := by
 refine uS1 Tryz.func38 ?_
 have H := Hp.startF (w := w) (S := S) (G := [Fz jQ]) (.cons hq .nil)
 refine uR 3 [.c [1, 0], .c [2]] ?_
 refine qG (sq 0 2) ?_
 refine uK (new_spec (S := Av S w [] (idsOf [] []))) ?_
 rintro _ _ - ⟨a, x3, y4, rfl, H'⟩
 have H := H.back (M1 := []) (W1 := []) H'
 have H := H.ung 0
 have H : Hp w S [] ((diskM a (newD x3 y4) none 0)) [⟨stepS, 143, .slice none ((newD x3 y4).steps.length) 0, (newD x3 y4).steps⟩] [_] _ := H
 have u1 : DOk (newD x3 y4) := newD_ok x3 y4
 refine uF 1 ?_
 refine uR 1 [.c [2, 0], .c [3]] ?_
 refine qG (sq 0 7) ?_
 refine uP 1 ?_
 have k0 := newD_CW x3 y4 (⟨#[118]⟩ : ByteArray)
 have d1 : (newD x3 y4).armed = false := rfl
 have H := H.gat 0 0
 refine RW.callS (d := some 17) (r := (sq 2 7)) (g := 36) (args := #[.P a 0, .string (⟨#[118]⟩ : ByteArray), .I 100]) (by as_aux_lemma => kernel_rfl) (vopen_spec (n := 100000000) (m := 0) (q := 0) (c := 0) (ds := ([] : List Deed)) plainV k0.di (k0.al.mono (by omega)) d1 (newD_op x3 y4 _) k0.cap (by omega) (fun B R h => h) allD_nil (Nat.zero_le _) (Nat.zero_le _) (by omega) (by decide) ((H.lend (M1 := (diskM _ _ _ _)) (W1 := [_])).pick [0] rfl)) ?_
 rintro _ _ ⟨h0, i, j, g9, l, s, l0, m0, t0, n0, o0, y0, rfl, e1, R0, f1, H'⟩
 have H := H.back (M1 := (diskM _ _ _ _)) (W1 := [_]) H'
 have H := H.ung 3
 have H : Hp w S [] ((h0, .cells #[.P i 0, .P a 0, .map (some j), .I 100, .I (usedL (runD ([] : List Deed)).1 : Int), .I (([] : List Deed).length : Int)] 119 (0, 0)) :: (j, mapO cidV veV y0 ((runD ([] : List Deed)).2)) :: (i, .cells #[.P a 0, .string (⟨#[118]⟩ : ByteArray), .slice l (([] : List (BitVec 8)).length) s, .slice l0 ((([] : List Deed).map encD).length) m0, .I g9, .string (⟨#[]⟩ : ByteArray), .slice none (([] : List (BitVec 8)).length) 0, .bool true] 41 (0, 0)) :: (diskM a t0 n0 o0)) [⟨SB, 23, .slice l0 ((([] : List Deed).map encD).length) m0, (([] : List Deed).map encD)⟩, ⟨stepS, 143, .slice n0 t0.steps.length o0, t0.steps⟩] [Rp SB [.slice l (([] : List (BitVec 8)).length) s] ([] : List (BitVec 8)), Rp SB [.slice none (([] : List (BitVec 8)).length) 0] ([] : List (BitVec 8)), Fall y0, _] _ := H
 refine uF 5 ?_
 refine uR 1 [.c [3, 0], .c [4]] ?_
 refine qG (sq 0 9) ?_
 refine RW.new (κ := .seq) (d := some 21) (r := (sq 1 9)) (o := .cells #[.int .u8 1, .int .u8 2] 5 (0, 0)) (v := fun b => .slice (some ⟨b, 0, none⟩) 2 2) (fun b => by as_aux_lemma => kernel_rfl) (nofun) H ?_
 intro u0 _ H
 refine RW.new (κ := .seq) (d := some 22) (r := (sq 2 9)) (o := .cells #[.slice (some ⟨u0, 0, none⟩) 2 2] 23 (0, 0)) (v := fun b => .slice (some ⟨b, 0, none⟩) 1 1) (fun b => by as_aux_lemma => kernel_rfl) (nofun) H ?_
 intro b1 _ H
 refine uP 1 ?_
 have H := H.freeze 1 rfl Sb ([1#8, 2#8] : List (BitVec 8)) 2 (by simp [maxLen]) (by first | exact Nat.le_refl _ | simp) (EsP.cons (c := [.int .u8 1]) (Shape.bv_lit (x := 1#8) (by decide)) (EsP.cons (c := [.int .u8 2]) (Shape.bv_lit (x := 2#8) (by decide)) EsP.nil))
 have H : Hp w S [] ((b1, .cells #[.slice (some ⟨u0, 0, none⟩) 2 2] 23 (0, 0)) :: _ :: _ :: _ :: _) [_, _] [Rp SB [.slice (some ⟨u0, 0, none⟩) 2 2] ([1#8, 2#8] : List (BitVec 8)), _, _, _, _] _ := H
 have H := H.freeze 0 rfl SB ([([1#8, 2#8] : List (BitVec 8))] : List (List (BitVec 8))) 1 (by simp [maxLen]) (by first | exact Nat.le_refl _ | simp) (EsP.cons (c := [.slice (some ⟨u0, 0, none⟩) 2 2]) (H.rp 0 rfl) EsP.nil)
 have H : Hp w S [] (_ :: _ :: _ :: _) [_, _] [Rp (Shape.slice SB) [.slice (some ⟨b1, 0, none⟩) 1 1] ([([1#8, 2#8] : List (BitVec 8))] : List (List (BitVec 8))), _, _, _, _, _] _ := H
 refine uK (heads_ok (cs := ([([1#8, 2#8] : List (BitVec 8))] : List (List (BitVec 8)))) (id := ⟨1, 0, 0⟩) 2 1 (H.rp 0 rfl) (cid_mk (Shape.int_mk (by decide)) (Shape.int_mk (by decide)) (Shape.int_mk (by decide))) (by omega) (by omega) (by decide) (by decide) (by decide)) ?_
 rintro _ _ g1 ⟨z0, A0, rfl, h1⟩
 have H := H.addM g1 h1
 rw [show headsOf (⟨1, 0, 0⟩) 2 1 ([([1#8, 2#8] : List (BitVec 8))] : List (List (BitVec 8))) = [h09] from heads_one] at H ⊢
 have H : Hp w S [] (_ :: _ :: _ :: _) [_, _] [Rp (Shape.slice hdrS) [.slice z0 1 A0] [h09], _, _, _, _, _, _] _ := H
 refine uF 5 ?_
 refine uR 6 [.c [5, 0], .c [6]] ?_
 refine qG (sq 0 7) ?_
 refine uP 1 ?_
 have i1 : 0 < [h09].length := Nat.zero_lt_one
 refine uX 171 0 H 0 rfl 0 (by omega) (List.getElem?_eq_getElem i1) ?_
 intro v1 x1 _ j1 H
 obtain ⟨_, rfl, k1, _, _, _⟩ := hdr_open j1
 obtain ⟨rfl, _, _, _⟩ := cid_open k1
 refine uV 100 0 (H.fc 0 rfl) ?_
 refine RW.new (κ := .seq) (d := some 45) (r := (sq 4 7)) (o := .cells #[.int .u8 1, .int .u8 2] 5 (0, 0)) (v := fun b => .slice (some ⟨b, 0, none⟩) 2 2) (fun b => by as_aux_lemma => kernel_rfl) (nofun) H ?_
 intro L _ H
 refine uP 1 ?_
 refine uC #[.int .u64 0, .I 0, .int .u64 0, .I 0, .I 0, .I 0, .int .u32 0, .slice none 0 0, .bool false] 102 H ?_
 intro M _ H
 refine qW 102 M 0 (sq 7 7) (.agg #[.int .u64 h09.id.version, .I h09.id.index, .int .u64 h09.id.epoch, .I h09.kk, .I h09.nn, .I h09.size, .int .u32 ((h09.sum.toNat : Nat) : Int), .slice (some ⟨L, 0, none⟩) 2 2, .bool false]) ((M, .cells #[.int .u64 h09.id.version, .I h09.id.index, .int .u64 h09.id.epoch, .I h09.kk, .I h09.nn, .I h09.size, .int .u32 ((h09.sum.toNat : Nat) : Int), .slice (some ⟨L, 0, none⟩) 2 2, .bool false] 102 (0, 0)) :: (L, .cells #[.int .u8 1, .int .u8 2] 5 (0, 0)) :: (h0, .cells #[.P i 0, .P a 0, .map (some j), .I 100, .I (usedL (runD ([] : List Deed)).1 : Int), .I (([] : List Deed).length : Int)] 119 (0, 0)) :: (j, mapO cidV veV y0 ((runD ([] : List Deed)).2)) :: (i, .cells #[.P a 0, .string (⟨#[118]⟩ : ByteArray), .slice l (([] : List (BitVec 8)).length) s, .slice l0 ((([] : List Deed).map encD).length) m0, .I g9, .string (⟨#[]⟩ : ByteArray), .slice none (([] : List (BitVec 8)).length) 0, .bool true] 41 (0, 0)) :: (diskM a t0 n0 o0)) H 0 rfl rfl ?_
 intro _ H
 refine uF 0 ?_
 refine uR 2 [.c [6, 0, 0], .c [6, 0, 1], .c [7]] ?_
 refine qG (sq 0 4) ?_
 refine uP 1 ?_
 refine uV 102 0 (H.cells 0 rfl) ?_
 have H := H.freeze 1 rfl Sb ([1#8, 2#8] : List (BitVec 8)) 2 (by simp [maxLen]) (by first | exact Nat.le_refl _ | simp) (EsP.cons (c := [.int .u8 1]) (Shape.bv_lit (x := 1#8) (by decide)) (EsP.cons (c := [.int .u8 2]) (Shape.bv_lit (x := 2#8) (by decide)) EsP.nil))
 have H : Hp w S [] (_ :: _ :: _ :: _ :: _) [_, _] [Rp SB [.slice (some ⟨L, 0, none⟩) 2 2] ([1#8, 2#8] : List (BitVec 8)), Fc v1 x1 [.int .u64 h09.id.version, .I h09.id.index, .int .u64 h09.id.epoch, .I h09.kk, .I h09.nn, .I h09.size, .int .u32 ((h09.sum.toNat : Nat) : Int)], _, _, _, _, _, _, _] _ := H
 have H := H.frontM 3 rfl
 have H := H.frontM 3 rfl
 have H := H.frontM 3 rfl
 have H := H.frontW 1 rfl
 have H := H.frontW 1 rfl
 have H := H.gat 3 1
 refine uKS (vprep_new (ds := ([] : List Deed)) (C := (⟨h09, [1#8, 2#8], false⟩ : Chk)) e1 R0 f1 allD_nil (by omega) (by omega) (by omega) (by omega) (by simp) h09_ok h09_whole (none_find (n := 0) rfl) (show (0 : Int) + 2 ≤ 100 by decide) ((H.lend (M1 := (_ :: _ :: _ :: (diskM _ _ _ _))) (W1 := [_, _])).pick [5, 6, 7, 8, 0] rfl)) ?_
 rintro _ _ ⟨rfl, u, B0, C0, D0, O, σ55, Q, T, U, V, v0, W, _, _, H'⟩
 have k := allD_snoc allD_nil (d := Deed.prep ⟨(⟨h09, [1#8, 2#8], false⟩ : Chk).head, (⟨h09, [1#8, 2#8], false⟩ : Chk).data, false⟩) ⟨(none_find (n := 0) rfl), h09_ok, whole_len h09_whole⟩
 have H := H.back (M1 := (_ :: _ :: _ :: (diskM _ _ _ _))) (W1 := [_, _]) H'
 have H := H.ung 3
 have H : Hp w S [] ((h0, .cells #[.P i 0, .P a 0, .map (some j), .I 100, .I (usedL (runD (([] : List Deed) ++ [Deed.prep ⟨(⟨h09, [1#8, 2#8], false⟩ : Chk).head, (⟨h09, [1#8, 2#8], false⟩ : Chk).data, false⟩])).1 : Int), .I ((([] : List Deed) ++ [Deed.prep ⟨(⟨h09, [1#8, 2#8], false⟩ : Chk).head, (⟨h09, [1#8, 2#8], false⟩ : Chk).data, false⟩]).length : Int)] 119 (0, 0)) :: (j, mapO cidV veV v0 ((runD (([] : List Deed) ++ [Deed.prep ⟨(⟨h09, [1#8, 2#8], false⟩ : Chk).head, (⟨h09, [1#8, 2#8], false⟩ : Chk).data, false⟩])).2)) :: (i, .cells #[.P a 0, .string (⟨#[118]⟩ : ByteArray), .slice l (([] : List (BitVec 8)).length) s, .slice Q (((([] : List Deed) ++ [Deed.prep ⟨(⟨h09, [1#8, 2#8], false⟩ : Chk).head, (⟨h09, [1#8, 2#8], false⟩ : Chk).data, false⟩]).map encD).length) T, .I D0, .string O, .slice U σ55.length V, .bool true] 41 (0, 0)) :: _ :: (diskM a u B0 C0)) [⟨SB, 23, .slice Q (((([] : List Deed) ++ [Deed.prep ⟨(⟨h09, [1#8, 2#8], false⟩ : Chk).head, (⟨h09, [1#8, 2#8], false⟩ : Chk).data, false⟩]).map encD).length) T, ((([] : List Deed) ++ [Deed.prep ⟨(⟨h09, [1#8, 2#8], false⟩ : Chk).head, (⟨h09, [1#8, 2#8], false⟩ : Chk).data, false⟩]).map encD)⟩, ⟨stepS, 143, .slice B0 u.steps.length C0, u.steps⟩] [_, Rp SB [.slice U σ55.length V] σ55, Fall v0, _, _, _, _, _, _, _, _, _] _ := H
 refine qF 1 [(1, .P a 0), (4, .slice z0 1 A0), (6, .P M 0), (50, .bool false)] ?_
 refine uR 3 [.c [7, 0], .c [8]] ?_
 refine qG (sq 0 2) ?_
 refine uP 1 ?_
 have H := H.frontW 1 rfl
 have H := H.gat 0 4
 refine uKS (dCrash0 W.di.ok W.al.hst ((H.lend (M1 := (diskM _ _ _ _)) (W1 := [_])).pick [] rfl)) ?_
 rintro _ _ ⟨rfl, y, z, H'⟩
 have H := H.back (M1 := (diskM _ _ _ _)) (W1 := [_]) H'
 have H := H.ung 0
 have H : Hp w S [] (_ :: _ :: _ :: _ :: (diskM a (crashD u [] y z) none 0)) [⟨stepS, 143, .slice none ((crashD u [] y z).steps.length) 0, (crashD u [] y z).steps⟩, _] [_, _, _, _, _, _, _, _, _, _, _, _] _ := H
 have X := heads_crash W W (Nat.le_refl _) (fun _ _ _ h => h) y z
 have l1 : (crashD u [] y z).armed = false := rfl
 obtain ⟨q9, m1⟩ := X.op
 refine uF 0 ?_
 refine uR 1 [.c [8, 0], .c [9]] ?_
 refine qG (sq 0 7) ?_
 refine uP 1 ?_
 have H := H.gat 0 4
 refine RW.callS (d := some 55) (r := (sq 2 7)) (g := 36) (args := #[.P a 0, .string (⟨#[118]⟩ : ByteArray), .I 100]) (by as_aux_lemma => kernel_rfl) (vopen_spec (n := 100000000) (m := 3) (q := q9) (c := 3) (ds := (([] : List Deed) ++ [Deed.prep ⟨(⟨h09, [1#8, 2#8], false⟩ : Chk).head, (⟨h09, [1#8, 2#8], false⟩ : Chk).data, false⟩])) plainV X.di (X.al.mono (by omega)) l1 m1 X.cap (by omega) (fun B R h => found_one h) k (by simp) (by simp) (by omega) (by decide) ((H.lend (M1 := (diskM _ _ _ _)) (W1 := [_])).pick [11] rfl)) ?_
 rintro _ _ ⟨A, e, f, c1, E, F, p0, q0, w0, r0, s0, E0, rfl, F0, x0, G0, H'⟩
 have H := H.back (M1 := (diskM _ _ _ _)) (W1 := [_]) H'
 have H := H.ung 3
 have H : Hp w S [] ((A, .cells #[.P e 0, .P a 0, .map (some f), .I 100, .I (usedL (runD (([] : List Deed) ++ [Deed.prep ⟨(⟨h09, [1#8, 2#8], false⟩ : Chk).head, (⟨h09, [1#8, 2#8], false⟩ : Chk).data, false⟩])).1 : Int), .I ((([] : List Deed) ++ [Deed.prep ⟨(⟨h09, [1#8, 2#8], false⟩ : Chk).head, (⟨h09, [1#8, 2#8], false⟩ : Chk).data, false⟩]).length : Int)] 119 (0, 0)) :: (f, mapO cidV veV E0 ((runD (([] : List Deed) ++ [Deed.prep ⟨(⟨h09, [1#8, 2#8], false⟩ : Chk).head, (⟨h09, [1#8, 2#8], false⟩ : Chk).data, false⟩])).2)) :: (e, .cells #[.P a 0, .string (⟨#[118]⟩ : ByteArray), .slice E (([] : List (BitVec 8)).length) F, .slice p0 (((([] : List Deed) ++ [Deed.prep ⟨(⟨h09, [1#8, 2#8], false⟩ : Chk).head, (⟨h09, [1#8, 2#8], false⟩ : Chk).data, false⟩]).map encD).length) q0, .I c1, .string (⟨#[]⟩ : ByteArray), .slice none (([] : List (BitVec 8)).length) 0, .bool true] 41 (0, 0)) :: _ :: _ :: _ :: _ :: (diskM a w0 r0 s0)) [⟨SB, 23, .slice p0 (((([] : List Deed) ++ [Deed.prep ⟨(⟨h09, [1#8, 2#8], false⟩ : Chk).head, (⟨h09, [1#8, 2#8], false⟩ : Chk).data, false⟩]).map encD).length) q0, ((([] : List Deed) ++ [Deed.prep ⟨(⟨h09, [1#8, 2#8], false⟩ : Chk).head, (⟨h09, [1#8, 2#8], false⟩ : Chk).data, false⟩]).map encD)⟩, ⟨stepS, 143, .slice r0 w0.steps.length s0, w0.steps⟩, _] [Rp SB [.slice E (([] : List (BitVec 8)).length) F] ([] : List (BitVec 8)), _, Fall E0, _, _, _, _, _, _, _, _, _, _, _, _] _ := H
 refine uF 5 ?_
 refine uR 6 [.c [10, 0], .c [11]] ?_
 refine qG (sq 0 12) ?_
 refine uP 2 ?_
 have n1 : 0 < [h09].length := Nat.zero_lt_one
 refine uX 171 0 H 8 rfl 0 (by omega) (List.getElem?_eq_getElem n1) ?_
 intro y1 z1 _ o1 H
 obtain ⟨_, rfl, p1, _, _, _⟩ := hdr_open o1
 obtain ⟨rfl, _, _, _⟩ := cid_open p1
 refine uP 1 ?_
 refine uV 82 0 (H.fc 0 rfl) ?_
 have H := H.frontM 2 rfl
 have H := H.frontM 2 rfl
 have H := H.frontM 2 rfl
 have H := H.frontW 1 rfl
 have H := H.frontW 1 rfl
 have H := H.gat 3 4
 refine uKS (vget_ok (ds := (([] : List Deed) ++ [Deed.prep ⟨(⟨h09, [1#8, 2#8], false⟩ : Chk).head, (⟨h09, [1#8, 2#8], false⟩ : Chk).data, false⟩])) F0 x0 G0 k (D := h09.id) (C := (⟨h09, [1#8, 2#8], false⟩ : Chk)) h09_ok.1 (one_find (one_prep (ds := ([] : List Deed)) rfl (⟨h09, [1#8, 2#8], false⟩ : Chk))) h09_whole ((H.lend (M1 := (_ :: _ :: _ :: (diskM _ _ _ _))) (W1 := [_, _])).pick [1, 2, 3, 15] rfl)) ?_
 rintro _ _ ⟨i0, J, rfl, H'⟩
 have H := H.back (M1 := (_ :: _ :: _ :: (diskM _ _ _ _))) (W1 := [_, _]) H'
 have H := H.ung 3
 have H : Hp w S [] (_ :: _ :: _ :: _ :: _ :: _ :: _ :: _) [⟨Sb, 5, .slice i0 ((⟨h09, [1#8, 2#8], false⟩ : Chk).data.length) J, (⟨h09, [1#8, 2#8], false⟩ : Chk).data⟩, _, _, _] [Fc y1 z1 [.int .u64 h09.id.version, .I h09.id.index, .int .u64 h09.id.epoch, .I h09.kk, .I h09.nn, .I h09.size, .int .u32 ((h09.sum.toNat : Nat) : Int)], _, _, _, _, _, _, _, _, _, _, _, _, _, _, _] _ := H
 refine uP 3 ?_
 refine uC #[.int .u64 0, .I 0, .int .u64 0, .I 0, .I 0, .I 0, .int .u32 0, .slice none 0 0, .bool false] 102 H ?_
 intro Y _ H
 refine qW 102 Y 0 (sq 11 12) (.agg #[.int .u64 ((⟨h09, [1#8, 2#8], false⟩ : Chk).head.id.version), .I ((⟨h09, [1#8, 2#8], false⟩ : Chk).head.id.index), .int .u64 ((⟨h09, [1#8, 2#8], false⟩ : Chk).head.id.epoch), .I ((⟨h09, [1#8, 2#8], false⟩ : Chk).head.kk), .I ((⟨h09, [1#8, 2#8], false⟩ : Chk).head.nn), .I ((⟨h09, [1#8, 2#8], false⟩ : Chk).head.size), .int .u32 ((((⟨h09, [1#8, 2#8], false⟩ : Chk).head.sum).toNat : Nat) : Int), .slice i0 ((⟨h09, [1#8, 2#8], false⟩ : Chk).data.length) J, .bool ((⟨h09, [1#8, 2#8], false⟩ : Chk).done_)]) ((Y, .cells #[.int .u64 ((⟨h09, [1#8, 2#8], false⟩ : Chk).head.id.version), .I ((⟨h09, [1#8, 2#8], false⟩ : Chk).head.id.index), .int .u64 ((⟨h09, [1#8, 2#8], false⟩ : Chk).head.id.epoch), .I ((⟨h09, [1#8, 2#8], false⟩ : Chk).head.kk), .I ((⟨h09, [1#8, 2#8], false⟩ : Chk).head.nn), .I ((⟨h09, [1#8, 2#8], false⟩ : Chk).head.size), .int .u32 ((((⟨h09, [1#8, 2#8], false⟩ : Chk).head.sum).toNat : Nat) : Int), .slice i0 ((⟨h09, [1#8, 2#8], false⟩ : Chk).data.length) J, .bool ((⟨h09, [1#8, 2#8], false⟩ : Chk).done_)] 102 (0, 0)) :: (A, .cells #[.P e 0, .P a 0, .map (some f), .I 100, .I (usedL (runD (([] : List Deed) ++ [Deed.prep ⟨(⟨h09, [1#8, 2#8], false⟩ : Chk).head, (⟨h09, [1#8, 2#8], false⟩ : Chk).data, false⟩])).1 : Int), .I ((([] : List Deed) ++ [Deed.prep ⟨(⟨h09, [1#8, 2#8], false⟩ : Chk).head, (⟨h09, [1#8, 2#8], false⟩ : Chk).data, false⟩]).length : Int)] 119 (0, 0)) :: (f, mapO cidV veV E0 ((runD (([] : List Deed) ++ [Deed.prep ⟨(⟨h09, [1#8, 2#8], false⟩ : Chk).head, (⟨h09, [1#8, 2#8], false⟩ : Chk).data, false⟩])).2)) :: (e, .cells #[.P a 0, .string (⟨#[118]⟩ : ByteArray), .slice E (([] : List (BitVec 8)).length) F, .slice p0 (((([] : List Deed) ++ [Deed.prep ⟨(⟨h09, [1#8, 2#8], false⟩ : Chk).head, (⟨h09, [1#8, 2#8], false⟩ : Chk).data, false⟩]).map encD).length) q0, .I c1, .string (⟨#[]⟩ : ByteArray), .slice none (([] : List (BitVec 8)).length) 0, .bool true] 41 (0, 0)) :: (h0, .cells #[.P i 0, .P a 0, .map (some j), .I 100, .I (usedL (runD (([] : List Deed) ++ [Deed.prep ⟨(⟨h09, [1#8, 2#8], false⟩ : Chk).head, (⟨h09, [1#8, 2#8], false⟩ : Chk).data, false⟩])).1 : Int), .I ((([] : List Deed) ++ [Deed.prep ⟨(⟨h09, [1#8, 2#8], false⟩ : Chk).head, (⟨h09, [1#8, 2#8], false⟩ : Chk).data, false⟩]).length : Int)] 119 (0, 0)) :: (j, mapO cidV veV v0 ((runD (([] : List Deed) ++ [Deed.prep ⟨(⟨h09, [1#8, 2#8], false⟩ : Chk).head, (⟨h09, [1#8, 2#8], false⟩ : Chk).data, false⟩])).2)) :: (i, .cells #[.P a 0, .string (⟨#[118]⟩ : ByteArray), .slice l (([] : List (BitVec 8)).length) s, .slice Q (((([] : List Deed) ++ [Deed.prep ⟨(⟨h09, [1#8, 2#8], false⟩ : Chk).head, (⟨h09, [1#8, 2#8], false⟩ : Chk).data, false⟩]).map encD).length) T, .I D0, .string O, .slice U σ55.length V, .bool true] 41 (0, 0)) :: (M, .cells #[.int .u64 h09.id.version, .I h09.id.index, .int .u64 h09.id.epoch, .I h09.kk, .I h09.nn, .I h09.size, .int .u32 ((h09.sum.toNat : Nat) : Int), .slice (some ⟨L, 0, none⟩) 2 2, .bool false] 102 (0, 0)) :: (diskM a w0 r0 s0)) H 0 rfl rfl ?_
 intro _ H
 refine uF 1 ?_
 refine uR 1 [.c [11, 0], .c [12]] ?_
 refine qG (sq 0 7) ?_
 refine uP 2 ?_
 have S0 : 0 < [h09].length := Nat.zero_lt_one
 refine uX 171 0 H 9 rfl 0 (by omega) (List.getElem?_eq_getElem S0) ?_
 intro q1 r1 _ T0 H
 obtain ⟨_, rfl, U0, _, _, _⟩ := hdr_open T0
 obtain ⟨rfl, _, _, _⟩ := cid_open U0
 refine uP 1 ?_
 refine uV 82 0 (H.fc 0 rfl) ?_
 have H := H.frontM 3 rfl
 have H := H.frontM 3 rfl
 have H := H.frontM 3 rfl
 have H := H.frontW 2 rfl
 have H := H.frontW 2 rfl
 have H := H.gat 3 5
 refine uKS (vrot_save (ds := (([] : List Deed) ++ [Deed.prep ⟨(⟨h09, [1#8, 2#8], false⟩ : Chk).head, (⟨h09, [1#8, 2#8], false⟩ : Chk).data, false⟩])) F0 x0 G0 k (by omega) (by omega) (by omega) (by omega) (by simp) (D := h09.id) (C := (⟨h09, [1#8, 2#8], false⟩ : Chk)) h09_ok.1 (one_find (one_prep (ds := ([] : List Deed)) rfl (⟨h09, [1#8, 2#8], false⟩ : Chk))) (bit := 0) (show 0 / 8 < 2 by decide) (show 2 ≤ 65536 by decide) ((H.lend (M1 := (_ :: _ :: _ :: (diskM _ _ _ _))) (W1 := [_, _])).pick [2, 3, 4, 16] rfl)) ?_
 rintro _ _ ⟨rfl, Z, a0, b0, H0, j0, σ124, c0, d0, e0, f0, t, V0, I0, g0, H'⟩
 have N := allD_snoc k (d := Deed.turn h09.id 0) ⟨⟨_, (one_find (one_prep (ds := ([] : List Deed)) rfl (⟨h09, [1#8, 2#8], false⟩ : Chk))), (show 0 / 8 < 2 by decide), (show 2 ≤ 65536 by decide)⟩, h09_ok.1⟩
 have H := H.back (M1 := (_ :: _ :: _ :: (diskM _ _ _ _))) (W1 := [_, _]) H'
 have H := H.ung 3
 have H : Hp w S [] ((A, .cells #[.P e 0, .P a 0, .map (some f), .I 100, .I (usedL (runD ((([] : List Deed) ++ [Deed.prep ⟨(⟨h09, [1#8, 2#8], false⟩ : Chk).head, (⟨h09, [1#8, 2#8], false⟩ : Chk).data, false⟩]) ++ [Deed.turn h09.id 0])).1 : Int), .I (((([] : List Deed) ++ [Deed.prep ⟨(⟨h09, [1#8, 2#8], false⟩ : Chk).head, (⟨h09, [1#8, 2#8], false⟩ : Chk).data, false⟩]) ++ [Deed.turn h09.id 0]).length : Int)] 119 (0, 0)) :: (f, mapO cidV veV t ((runD ((([] : List Deed) ++ [Deed.prep ⟨(⟨h09, [1#8, 2#8], false⟩ : Chk).head, (⟨h09, [1#8, 2#8], false⟩ : Chk).data, false⟩]) ++ [Deed.turn h09.id 0])).2)) :: (e, .cells #[.P a 0, .string (⟨#[118]⟩ : ByteArray), .slice E (([] : List (BitVec 8)).length) F, .slice c0 ((((([] : List Deed) ++ [Deed.prep ⟨(⟨h09, [1#8, 2#8], false⟩ : Chk).head, (⟨h09, [1#8, 2#8], false⟩ : Chk).data, false⟩]) ++ [Deed.turn h09.id 0]).map encD).length) d0, .I H0, .string j0, .slice e0 σ124.length f0, .bool true] 41 (0, 0)) :: _ :: _ :: _ :: _ :: _ :: (diskM a Z a0 b0)) [⟨SB, 23, .slice c0 ((((([] : List Deed) ++ [Deed.prep ⟨(⟨h09, [1#8, 2#8], false⟩ : Chk).head, (⟨h09, [1#8, 2#8], false⟩ : Chk).data, false⟩]) ++ [Deed.turn h09.id 0]).map encD).length) d0, (((([] : List Deed) ++ [Deed.prep ⟨(⟨h09, [1#8, 2#8], false⟩ : Chk).head, (⟨h09, [1#8, 2#8], false⟩ : Chk).data, false⟩]) ++ [Deed.turn h09.id 0]).map encD)⟩, ⟨stepS, 143, .slice a0 Z.steps.length b0, Z.steps⟩, _, _] [_, Rp SB [.slice e0 σ124.length f0] σ124, Fall t, Fc q1 r1 [.int .u64 h09.id.version, .I h09.id.index, .int .u64 h09.id.epoch, .I h09.kk, .I h09.nn, .I h09.size, .int .u32 ((h09.sum.toNat : Nat) : Int)], _, _, _, _, _, _, _, _, _, _, _, _, _, _, _, _] _ := H
 refine uF 1 ?_
 refine qR 1 [.c [12, 0], .c [13]] [(4, .slice z0 1 A0), (6, .P M 0), (7, .P A 0), (9, .P Y 0), (10, .I 0), (11, .I 0)] ?_
 refine qG (sq 0 12) ?_
 refine uP 2 ?_
 have W0 : 0 < [h09].length := Nat.zero_lt_one
 refine uX 171 0 H 13 rfl 0 (by omega) (List.getElem?_eq_getElem W0) ?_
 intro s1 t1 _ X0 H
 obtain ⟨_, rfl, Y0, _, _, _⟩ := hdr_open X0
 obtain ⟨rfl, _, _, _⟩ := cid_open Y0
 refine uP 1 ?_
 refine uV 82 0 (H.fc 0 rfl) ?_
 have H := H.frontM 2 rfl
 have H := H.frontM 2 rfl
 have H := H.frontM 2 rfl
 have H := H.frontW 1 rfl
 have H := H.frontW 1 rfl
 have H := H.gat 3 5
 refine uKS (vget_rot (ds := ((([] : List Deed) ++ [Deed.prep ⟨(⟨h09, [1#8, 2#8], false⟩ : Chk).head, (⟨h09, [1#8, 2#8], false⟩ : Chk).data, false⟩]) ++ [Deed.turn h09.id 0])) V0 I0 g0 N (D := h09.id) (C := (⟨h09, turnB [1#8, 2#8] 0, false⟩ : Chk)) h09_ok.1 (one_find (one_turn (one_prep (ds := ([] : List Deed)) rfl (⟨h09, [1#8, 2#8], false⟩ : Chk)) 0)) (whole_turned h09_whole (by decide)) ((H.lend (M1 := (_ :: _ :: _ :: (diskM _ _ _ _))) (W1 := [_, _])).pick [1, 2, 3, 20] rfl)) ?_
 rintro _ _ ⟨rfl, H'⟩
 have H := H.back (M1 := (_ :: _ :: _ :: (diskM _ _ _ _))) (W1 := [_, _]) H'
 have H := H.ung 3
 have H : Hp w S [] (_ :: _ :: _ :: _ :: _ :: _ :: _ :: _ :: _) [_, _, _, _] [Fc s1 t1 [.int .u64 h09.id.version, .I h09.id.index, .int .u64 h09.id.epoch, .I h09.kk, .I h09.nn, .I h09.size, .int .u32 ((h09.sum.toNat : Nat) : Int)], _, _, _, _, _, _, _, _, _, _, _, _, _, _, _, _, _, _, _, _] _ := H
 refine uP 3 ?_
 refine uC #[.int .u64 0, .I 0, .int .u64 0, .I 0, .I 0, .I 0, .int .u32 0, .slice none 0 0, .bool false] 102 H ?_
 intro J0 _ H
 refine qW 102 J0 0 (sq 11 12) (.agg #[.int .u64 0, .I 0, .int .u64 0, .I 0, .I 0, .I 0, .int .u32 (((0#32).toNat : Nat) : Int), .slice none 0 0, .bool false]) ((J0, .cells #[.int .u64 0, .I 0, .int .u64 0, .I 0, .I 0, .I 0, .int .u32 (((0#32).toNat : Nat) : Int), .slice none 0 0, .bool false] 102 (0, 0)) :: (A, .cells #[.P e 0, .P a 0, .map (some f), .I 100, .I (usedL (runD ((([] : List Deed) ++ [Deed.prep ⟨(⟨h09, [1#8, 2#8], false⟩ : Chk).head, (⟨h09, [1#8, 2#8], false⟩ : Chk).data, false⟩]) ++ [Deed.turn h09.id 0])).1 : Int), .I (((([] : List Deed) ++ [Deed.prep ⟨(⟨h09, [1#8, 2#8], false⟩ : Chk).head, (⟨h09, [1#8, 2#8], false⟩ : Chk).data, false⟩]) ++ [Deed.turn h09.id 0]).length : Int)] 119 (0, 0)) :: (f, mapO cidV veV t ((runD ((([] : List Deed) ++ [Deed.prep ⟨(⟨h09, [1#8, 2#8], false⟩ : Chk).head, (⟨h09, [1#8, 2#8], false⟩ : Chk).data, false⟩]) ++ [Deed.turn h09.id 0])).2)) :: (e, .cells #[.P a 0, .string (⟨#[118]⟩ : ByteArray), .slice E (([] : List (BitVec 8)).length) F, .slice c0 ((((([] : List Deed) ++ [Deed.prep ⟨(⟨h09, [1#8, 2#8], false⟩ : Chk).head, (⟨h09, [1#8, 2#8], false⟩ : Chk).data, false⟩]) ++ [Deed.turn h09.id 0]).map encD).length) d0, .I H0, .string j0, .slice e0 σ124.length f0, .bool true] 41 (0, 0)) :: (Y, .cells #[.int .u64 ((⟨h09, [1#8, 2#8], false⟩ : Chk).head.id.version), .I ((⟨h09, [1#8, 2#8], false⟩ : Chk).head.id.index), .int .u64 ((⟨h09, [1#8, 2#8], false⟩ : Chk).head.id.epoch), .I ((⟨h09, [1#8, 2#8], false⟩ : Chk).head.kk), .I ((⟨h09, [1#8, 2#8], false⟩ : Chk).head.nn), .I ((⟨h09, [1#8, 2#8], false⟩ : Chk).head.size), .int .u32 ((((⟨h09, [1#8, 2#8], false⟩ : Chk).head.sum).toNat : Nat) : Int), .slice i0 ((⟨h09, [1#8, 2#8], false⟩ : Chk).data.length) J, .bool ((⟨h09, [1#8, 2#8], false⟩ : Chk).done_)] 102 (0, 0)) :: (h0, .cells #[.P i 0, .P a 0, .map (some j), .I 100, .I (usedL (runD (([] : List Deed) ++ [Deed.prep ⟨(⟨h09, [1#8, 2#8], false⟩ : Chk).head, (⟨h09, [1#8, 2#8], false⟩ : Chk).data, false⟩])).1 : Int), .I ((([] : List Deed) ++ [Deed.prep ⟨(⟨h09, [1#8, 2#8], false⟩ : Chk).head, (⟨h09, [1#8, 2#8], false⟩ : Chk).data, false⟩]).length : Int)] 119 (0, 0)) :: (j, mapO cidV veV v0 ((runD (([] : List Deed) ++ [Deed.prep ⟨(⟨h09, [1#8, 2#8], false⟩ : Chk).head, (⟨h09, [1#8, 2#8], false⟩ : Chk).data, false⟩])).2)) :: (i, .cells #[.P a 0, .string (⟨#[118]⟩ : ByteArray), .slice l (([] : List (BitVec 8)).length) s, .slice Q (((([] : List Deed) ++ [Deed.prep ⟨(⟨h09, [1#8, 2#8], false⟩ : Chk).head, (⟨h09, [1#8, 2#8], false⟩ : Chk).data, false⟩]).map encD).length) T, .I D0, .string O, .slice U σ55.length V, .bool true] 41 (0, 0)) :: (M, .cells #[.int .u64 h09.id.version, .I h09.id.index, .int .u64 h09.id.epoch, .I h09.kk, .I h09.nn, .I h09.size, .int .u32 ((h09.sum.toNat : Nat) : Int), .slice (some ⟨L, 0, none⟩) 2 2, .bool false] 102 (0, 0)) :: (diskM a Z a0 b0)) H 0 rfl rfl ?_
 intro _ H
 refine uF 1 ?_
 refine uR 1 [.c [13, 0], .c [14]] ?_
 refine qG (sq 0 22) ?_
 refine uP 3 ?_
 refine uV 102 0 (H.cells 4 rfl) ?_
 refine uV 102 0 (H.cells 8 rfl) ?_
 have H : Hp w S [] (_ :: _ :: _ :: _ :: _ :: _ :: _ :: _ :: _ :: _) [_, _, _] [Rp SB [.slice i0 ((⟨h09, [1#8, 2#8], false⟩ : Chk).data.length) J] ((⟨h09, [1#8, 2#8], false⟩ : Chk).data), _, _, _, _, _, _, _, _, _, _, _, _, _, _, _, _, _, _, _, _, _] _ := H.freezeW 2 rfl
 refine uK (same9_spec (C := (⟨h09, [1#8, 2#8], false⟩ : Chk)) (H.rp 0 rfl) (H.rp 13 rfl)) ?_
 rintro _ _ Z0 rfl
 have H := H.ext Z0
 refine uP 11 ?_
 obtain ⟨K0, L0, M0, N0⟩ := vkeys_ok g0 N (by simp)
 have H := H.frontM 2 rfl
 have H := H.frontM 2 rfl
 refine uKS (vscrub_spec K0 L0 M0 N0 ((H.lend (M1 := [_, _]) (W1 := [])).pick [4] rfl)) ?_
 rintro _ _ ⟨O0, P0, K, Q0, rfl, H'⟩
 have H := H.back (M1 := [_, _]) (W1 := []) H'
 have H : Hp w S [] (_ :: _ :: _ :: _ :: _ :: _ :: _ :: _ :: _ :: _) [⟨cidS, 82, .slice O0 ((K.filter (rotL (cont t))).length) P0, (K.filter (rotL (cont t)))⟩, _, _, _] [_, _, _, _, _, _, _, _, _, _, _, _, _, _, _, _, _, _, _, _, _, _] _ := H
 have a1 : (K.filter (rotL (cont t))) = [h09.id] := scrub_one (one_turn (one_prep (ds := ([] : List Deed)) rfl (⟨h09, [1#8, 2#8], false⟩ : Chk)) 0) g0 Q0 (whole_turned h09_whole (by decide))
 rw [a1] at H ⊢
 have H : Hp w S [] (_ :: _ :: _ :: _ :: _ :: _ :: _ :: _ :: _ :: _) [⟨cidS, 82, .slice O0 1 P0, [h09.id]⟩, _, _, _] [_, _, _, _, _, _, _, _, _, _, _, _, _, _, _, _, _, _, _, _, _, _] _ := H
 refine uF 4 ?_
 refine qT (.bool true) Tryz.func38 ?_
 exact ⟨_, rfl, H.done, rfl⟩
end Go.Proofs.YtdnibpclkhenmaaGreatDoor
