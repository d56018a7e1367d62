import Derived.Test.YtppcdmbkgficiaaGreatSBxB
import Derived.Test.YtppcdmbkgficiaaGreatSF7
import Derived.Test.YtppcdmbkgficiaaGreatSA4
namespace Go.Proofs.YtppcdmbkgficiaaGreat
open Go.BX
theorem r4len_ok {S : Nat → Prop} {w : World} (size k : Nat) (hs : size ≤ 65536) (hk : 1 ≤ k) (hk2 : k ≤ 255) :
 Calls Tryz.prog 18 #[.I size, .I k] w (Ret fun v w' => Ext w w' ∧ v = .tuple #[.I ((lenOf size k : Nat) : Int), .I 0]) := by
 refine uS1 Tryz.func18 ?_
 have H := Hp.startF (w := w) (S := S) (G := []) .nil
 refine uR 4 [.c [1, 0, 0], .c [1, 0, 1], .c [2]] ?_
 refine qG (sq 0 14) ?_
 refine uP 3 ?_
 refine uD 8 (((size : Int) : Int) < 0) (fun a => ?_) (fun a => ?_)
 ·
  omega
 ·
  refine uP 4 ?_
  refine uD 12 (((size : Int) : Int) > 65536) (fun b => ?_) (fun b => ?_)
  ·
   omega
  ·
   refine uP 4 ?_
   refine uD 16 (((k : Int) : Int) < 1) (fun e => ?_) (fun e => ?_)
   ·
    omega
   ·
    refine uF 3 ?_
    refine qD (((k : Int) : Int) > 255) (fun f => ?_) (fun f => ?_)
    ·
     omega
    ·
     refine uR 2 [.c [2, 0], .c [3]] ?_
     refine qG (sq 0 8) ?_
     refine uP 2 ?_
     refine uI ((size : Int) + (k : Int)) ?_
     refine uI (((size : Int) + (k : Int)) - 1) ?_
     refine uP 1 ?_
     refine RW.readS (κ := .seq) (d := some 25) (r := (sq 6 8)) (s := semV (Op.intDiv .quo .i64 (((size : Int) + (k : Int)) - 1) (k : Int))) (v := .I ((lenOf size k : Nat) : Int)) (by as_aux_lemma => kernel_rfl) (fun w' _ => semV_run (quo_nat (r := lenOf size k) (by omega) (by omega) (by rw [show ((size : Int) + (k : Int) - 1) = ((size + k - 1 : Nat) : Int) by omega]; rfl))) ?_
     refine uF 2 ?_
     refine qT (.tuple #[.I ((lenOf size k : Nat) : Int), .I 0]) Tryz.func18 ?_
     exact ⟨_, rfl, H.done, rfl⟩
theorem r4len_bad {S : Nat → Prop} {w : World} (size k : Int) (hb : ¬ okL size k) :
 Calls Tryz.prog 18 #[.I size, .I k] w (Ret fun v w' => Ext w w' ∧ v = .tuple #[.I 0, .I 2]) := by
 unfold okL at hb
 refine uS1 Tryz.func18 ?_
 have H := Hp.startF (w := w) (S := S) (G := []) .nil
 refine uR 4 [.c [1, 0, 0], .c [1, 0, 1], .c [2]] ?_
 refine WK.join (fun b_ : Bool => b_ = decide (size < 0 ∨ size > 65536 ∨ k < 1 ∨ k > 255)) (fun b_ => [(0, .I size), (1, .I k), (19, .bool b_)]) [Cq Tryz.prog 18 [1, 0, 1], Cq Tryz.prog 18 [2]] (fun b => ?_) (fun e d => ?_)
 ·
  refine qG (sq 0 14) ?_
  refine uP 3 ?_
  refine uD 8 ((size : Int) < 0) (fun f => ?_) (fun f => ?_)
  ·
   refine uF 11 ?_
   exact uB (b true ((decide_eq_true (by omega)).symm))
  ·
   refine uP 4 ?_
   refine uD 12 ((size : Int) > 65536) (fun g => ?_) (fun g => ?_)
   ·
    refine uF 7 ?_
    exact uB (b true ((decide_eq_true (by omega)).symm))
   ·
    refine uP 4 ?_
    refine uD 16 ((k : Int) < 1) (fun h => ?_) (fun h => ?_)
    ·
     refine uF 3 ?_
     exact uB (b true ((decide_eq_true (by omega)).symm))
    ·
     refine uF 3 ?_
     exact uB (b (decide ((k : Int) > 255)) (decide_eq_decide.2 (by constructor <;> intro _ <;> omega)))
 ·
  refine qC e (fun a => ?_) (fun a => ?_)
  ·
   rw [d] at a
   replace a := of_decide_eq_true a
   refine uR 2 [.c [1, 0, 1, 0, 1], .c [2]] ?_
   refine qT (.tuple #[.I 0, .I 2]) Tryz.func18 ?_
   exact ⟨_, rfl, H.done, rfl⟩
  ·
   rw [d] at a
   replace a := of_decide_eq_false a
   exact absurd (by omega) hb
theorem r4len_gen {S : Nat → Prop} {w : World} (size k : Int) : Calls Tryz.prog 18 #[.I size, .I k] w (Ret fun v w' => Ext w w' ∧ v = .tuple #[.I (llI size k), .I (elI size k)]) := by
 by_cases h : okL size k
 · have a := h
   unfold okL at a
   obtain ⟨size, rfl⟩ : ∃ m : Nat, size = (m : Int) := ⟨size.toNat, by omega⟩
   obtain ⟨k, rfl⟩ : ∃ m : Nat, k = (m : Int) := ⟨k.toNat, by omega⟩
   unfold llI elI
   rw [if_pos h, if_pos h]
   exact r4len_ok (S := S) size k (by omega) (by omega) (by omega)
 · unfold llI elI
   rw [if_neg h, if_neg h]
   exact r4len_bad (S := S) size k h
theorem rhas_nil {S : Nat → Prop} {w : World} {r : Rd} {cs : List Value} (hr : rdS.rep S w cs r) (hps : r.pieces = []) (i : Int) :
 Calls Tryz.prog 35 #[.agg cs.toArray, .I i] w (Ret fun v w' => Ext w w' ∧ v = .bool false) := by
 obtain ⟨_, f, h, j, k, rfl, m, _, _, n, o, _, _, _⟩ := rd_open hr
 obtain ⟨a, d, rfl, _, _, _, _, _, e⟩ := obj_open m
 have hpl : r.pieces.length = 0 := by rw [hps]; rfl
 refine uS1 Tryz.func35 ?_
 have H := Hp.startF (.rp e (.rp n (.rp o .nil)))
 refine uR 1 [.c [0], .c [1]] ?_
 refine qG (sq 0 2) ?_
 refine uC ((rdV r a d f h j k).toArray) 30 H ?_
 intro q _ H
 refine uF 1 ?_
 refine uR 4 [.c [1, 0, 1, 0], .b 0, .c [2]] ?_
 refine uL (α := Unit) (g := 35) (p := [1, 0, 1, 0, 0]) (fun _ => [(1, .I i), (2, .P q 0), (5, .I 0)]) (fun _ w' => Hp w S [] [(q, .cells (rdV r a d f h j k).toArray 30 (0, 0))] [] [Rp (Shape.slice (Shape.int .i64)) [.slice a r.object.nodes.length d] r.object.nodes, Rp (Shape.slice pcS) [.slice f r.pieces.length h] r.pieces, Rp (Shape.slice (Shape.int .i64)) [.slice j r.bad.length k] r.bad] w' ∧ True) (fun _ => 0) (()) ⟨H, trivial⟩ ?_
 rintro _ _ ⟨H, _⟩ _
 refine uR 2 [.c [1, 0, 1, 0, 0, 0, 0], .c [1, 0, 1, 0, 0, 0, 1], .c [1, 0, 1, 0, 0, 1], .l [1, 0, 1, 0, 0], .b 0, .c [2]] ?_
 refine qG (sq 0 5) ?_
 refine uP 2 ?_
 refine uV 27 9 (H.cells 0 rfl) ?_
 refine uF 2 ?_
 refine qD ((0 : Int) < ((r.pieces.length : Nat) : Int)) (fun s => ?_) (fun s => ?_)
 ·
  omega
 ·
  refine uR 3 [.c [3]] ?_
  refine qT (.bool false) Tryz.func35 ?_
  exact ⟨_, rfl, H.done, rfl⟩
theorem in0_spec {S : Nat → Prop} {w : World} (x : Int) {xs : List Int} (hx : xs.length = 0) {a : Option Addr} {c : Nat} (h : (Shape.slice (Shape.int .i64)).rep S w [.slice a xs.length c] xs) :
 Calls Tryz.prog 36 #[.I x, .slice a xs.length c] w (Ret fun v w' => Ext w w' ∧ v = .bool false) := by
 refine uS1 Tryz.func36 ?_
 have H := Hp.startF (.rp h .nil)
 refine uR 6 [.c [1, 0, 1, 0], .b 0, .c [2]] ?_
 refine uL (α := Unit) (g := 36) (p := [1, 0, 1, 0, 0]) (fun _ => [(0, .I x), (1, .slice a xs.length c), (5, .I 0)]) (fun _ w' => Hp w S [] [] [] [Rp (Shape.slice (Shape.int .i64)) [.slice a xs.length c] xs] w' ∧ True) (fun _ => 0) (()) ⟨H, trivial⟩ ?_
 rintro _ _ ⟨H, _⟩ _
 refine uR 3 [.c [1, 0, 1, 0, 0, 0, 1], .c [1, 0, 1, 0, 0, 1], .l [1, 0, 1, 0, 0], .b 0, .c [2]] ?_
 refine qD ((0 : Int) < ((xs.length : Nat) : Int)) (fun d => ?_) (fun d => ?_)
 ·
  omega
 ·
  refine uR 3 [.c [3]] ?_
  refine qT (.bool false) Tryz.func36 ?_
  exact ⟨_, rfl, H.done, rfl⟩
theorem rhead_spec {S : Nat → Prop} {w : World} {r : Rd} {cs : List Value} (hr : rdS.rep S w cs r) (i : Int) :
 Calls Tryz.prog 37 #[.agg cs.toArray, .I i] w (Ret fun v w' => Ext w w' ∧ v = .agg #[.int .u64 r.object.version, .I i, .int .u64 r.object.epoch, .I r.kk, .I r.nn, .I r.object.size, .int .u32 0]) := by
 obtain ⟨_, e, f, g, h, rfl, j, _, _, k, l, _, _, _⟩ := rd_open hr
 obtain ⟨a, b, rfl, _, _, _, _, _, d⟩ := obj_open j
 refine uS1 Tryz.func37 ?_
 have H := Hp.startF (.rp d (.rp k (.rp l .nil)))
 refine uR 1 [.c [0], .c [1]] ?_
 refine qG (sq 0 2) ?_
 refine uC ((rdV r a b e f g h).toArray) 30 H ?_
 intro _ _ H
 refine uC #[.int .u64 0, .I 0, .int .u64 0, .I 0, .I 0, .I 0, .int .u32 0] 84 H ?_
 intro _ _ H
 refine uF 0 ?_
 refine uR 1 [.c [1, 0], .c [2]] ?_
 refine qG (sq 0 17) ?_
 refine uP 2 ?_
 refine uV 22 1 (H.cells 1 rfl) ?_
 refine uP 3 ?_
 refine uV 22 5 (H.cells 1 rfl) ?_
 refine uP 2 ?_
 refine uV 3 7 (H.cells 1 rfl) ?_
 refine uP 1 ?_
 refine uV 3 8 (H.cells 1 rfl) ?_
 refine uP 2 ?_
 refine uV 3 2 (H.cells 1 rfl) ?_
 refine uP 1 ?_
 refine uW 84 0 #[.int .u64 r.object.version, .I i, .int .u64 r.object.epoch, .I r.kk, .I r.nn, .I r.object.size, .int .u32 0] H 0 rfl ?_
 intro _ H
 refine uF 0 ?_
 refine qRB (.agg #[.int .u64 r.object.version, .I i, .int .u64 r.object.epoch, .I r.kk, .I r.nn, .I r.object.size, .int .u32 0]) Tryz.func37 (v1 (.cell 4 84) (vC (H.cells 0 rfl))) ?_
 exact ⟨_, rfl, H.done, rfl⟩
set_option maxHeartbeats 4000000 in
theorem rmsgs_spec {S : Nat → Prop} {w : World} {r : Rd} {cs : List Value} (hr : rdS.rep S w cs r) (hn : r.object.nodes.length ≤ 1000000) (hps : r.pieces = []) (hbd : r.bad = []) :
 Calls Tryz.prog 19 #[.agg cs.toArray] w (Ret fun v w' => Ext w w' ∧ ∃ (a : Option Addr) (c : Nat), v = .slice a (asksR r).length c ∧ (Shape.slice msgS).rep (Nw S w) w' [.slice a (asksR r).length c] (asksR r)) := by
 obtain ⟨_, j, k, m, n, rfl, B, _, _, C, D, _, _, _⟩ := rd_open hr
 obtain ⟨e, f, rfl, _, _, _, _, _, h⟩ := obj_open B
 refine uS1 Tryz.func19 ?_
 have H := Hp.startF (.rp h (.rp C (.rp D .nil)))
 refine uR 1 [.c [0], .c [1]] ?_
 refine qG (sq 0 2) ?_
 refine uC ((rdV r e f j k m n).toArray) 30 H ?_
 intro y _ H
 refine uF 1 ?_
 refine uR 6 [.c [2, 0, 1, 0], .b 0, .c [3]] ?_
 have H := H.ownNil msgS 89
 refine uL (α := Nat × Option Addr × Nat) (g := 19) (p := [2, 0, 1, 0, 0]) (fun (i, ao, co) => [(1, .P y 0), (3, .slice ao (asksTo r i).length co), (4, .I i)]) (fun (i, ao, co) w' => Hp w S [] [(y, .cells (rdV r e f j k m n).toArray 30 (0, 0))] [⟨msgS, 89, .slice ao (asksTo r i).length co, asksTo r i⟩] [Rp (Shape.slice (Shape.int .i64)) [.slice e r.object.nodes.length f] r.object.nodes, Rp (Shape.slice pcS) [.slice j r.pieces.length k] r.pieces, Rp (Shape.slice (Shape.int .i64)) [.slice m r.bad.length n] r.bad] w' ∧ i ≤ r.object.nodes.length) (fun (i, ao, co) => r.object.nodes.length - i) (0, none, 0) ⟨H, Nat.zero_le _⟩ ?_
 rintro ⟨i, ao, co⟩ _ ⟨H, _⟩ q
 have hml := asksTo_le r i
 refine uR 2 [.c [2, 0, 1, 0, 0, 0, 0], .c [2, 0, 1, 0, 0, 0, 1], .c [2, 0, 1, 0, 0, 1], .l [2, 0, 1, 0, 0], .b 0, .c [3]] ?_
 refine qG (sq 0 6) ?_
 refine uP 3 ?_
 refine uV 24 6 (H.cells 0 rfl) ?_
 refine uF 2 ?_
 refine qD (((i : Int) : Int) < ((r.object.nodes.length : Nat) : Int)) (fun N => ?_) (fun N => ?_)
 ·
  refine uR 4 [.c [2, 0, 1, 0, 0, 1, 0, 0, 0], .c [2, 0, 1, 0, 0, 1, 0, 0, 1], .b 1, .c [2, 0, 1, 0, 0, 2], .l [2, 0, 1, 0, 0], .b 0, .c [3]] ?_
  refine qG (sq 0 11) ?_
  refine uV 30 0 (H.cells 0 rfl) ?_
  refine uP 1 ?_
  refine uK (rhas_nil (r := r) (rd_mkB (by unfold rdB; omega) (H.rp 0 rfl) (H.rp 1 rfl) (H.rp 2 rfl)) (hps) (i : Int)) ?_
  rintro _ _ E rfl
  have H := H.ext E
  refine uP 4 ?_
  refine uV 24 10 (H.cells 0 rfl) ?_
  refine uK (in0_spec (S := fun _ => True) (i : Int) (xs := r.bad) (by rw [hbd]; rfl) (H.viewF 2 rfl)) ?_
  rintro _ F G rfl
  have H := H.ext G
  refine uF 2 ?_
  refine uR 1 [.c [2, 0, 1, 0, 0, 1, 0, 0, 1, 0], .b 1, .c [2, 0, 1, 0, 0, 2], .l [2, 0, 1, 0, 0], .b 0, .c [3]] ?_
  refine WK.draw1 12 [(0, .qui), (1, .qui), (2, .qui), (3, .qui), (4, .qui), (5, .qui), (6, .qui), (7, .qui), (8, .qui), (9, .chn), (10, .qui), (11, .chn)] [(0, .qui), (1, .qui), (2, .qui), (3, .qui), (4, .qui), (5, .qui), (6, .qui), (7, .qui), (8, .qui), (9, .chn), (10, .qui), (11, .chn), (12, .seq), (13, .seq)] Try_mixed (by as_aux_lemma => kernel_rfl) (by as_aux_lemma => kernel_rfl) (by as_aux_lemma => kernel_rfl) ?_
  have H := H.draw
  generalize ({ F with drawn := F.drawn + 1 } : World) = Q at H ⊢
  refine uP 3 ?_
  refine uV 24 6 (H.cells 0 rfl) ?_
  refine uP 1 ?_
  have z : i < r.object.nodes.length := by omega
  refine uX 24 (i : Int) H 0 rfl i (by omega) (List.getElem?_eq_getElem z) ?_
  intro J K _ s H
  have O := Shape.i64_bd s
  obtain ⟨rfl, -⟩ := s
  refine uV 3 0 (H.fc 0 rfl) ?_
  refine uV 30 0 (H.cells 0 rfl) ?_
  refine qP 1 [(9, .chn), (10, .qui), (11, .chn), (12, .seq), (13, .seq)] [(1, .P y 0), (3, .slice ao (asksTo r i).length co), (4, .I i), (24, .slice ao (asksTo r i).length co), (30, .I (r.object.nodes[i])), (31, .agg (rdV r e f j k m n).toArray), (32, .I i)] ?_
  refine uK (rhead_spec (r := r) (rd_mkB (by unfold rdB; omega) (H.rp 1 rfl) (H.rp 2 rfl) (H.rp 3 rfl)) (i : Int)) ?_
  rintro _ _ A rfl
  have H := H.ext A
  refine uP 1 ?_
  refine RW.new (κ := .chn) (d := some 35) (r := [(12, .seq), (13, .seq)]) (o := .cells #[.I 14, .I 0, .I (r.object.nodes[i]), .int .u64 0, .int .u64 0, .int .u64 0, .int .u64 0, .int .u64 0, .bool false, .bool false, .slice none 0 0, .slice none 0 0, .slice none 0 0, .int .u64 r.object.version, .I i, .int .u64 r.object.epoch, .I r.kk, .I r.nn, .I r.object.size, .int .u32 0, .slice none 0 0, .int .u64 0, .int .u64 0, .I 0, .string (⟨#[]⟩), .I 0, .slice none 0 0] 89 (0, 0)) (v := fun b => .slice (some ⟨b, 0, none⟩) 1 1) (fun b => by as_aux_lemma => kernel_rfl) (nofun) H ?_
  intro L _ H
  have H := H.freeze 0 rfl msgS ([⟨14, 0, r.object.nodes[i], 0, 0, 0, 0, 0, false, false, [], ⟨[], []⟩, ⟨⟨r.object.version, (i : Int), r.object.epoch⟩, r.kk, r.nn, r.object.size, 0#32⟩, [], 0, 0, 0, ⟨#[]⟩, 0, []⟩] : List Msg) 1 (by simp [maxLen]) (by first | exact Nat.le_refl _ | simp) (EsP.cons (c := [.I 14, .I 0, .I (r.object.nodes[i]), .int .u64 0, .int .u64 0, .int .u64 0, .int .u64 0, .int .u64 0, .bool false, .bool false, .slice none 0 0, .slice none 0 0, .slice none 0 0, .int .u64 r.object.version, .I i, .int .u64 r.object.epoch, .I r.kk, .I r.nn, .I r.object.size, .int .u32 0, .slice none 0 0, .int .u64 0, .int .u64 0, .I 0, .string (⟨#[]⟩), .I 0, .slice none 0 0]) (msg_mk (l0 := [.I 14]) (y0 := 14) (l1 := [.I 0]) (y1 := 0) (l2 := [.I (r.object.nodes[i])]) (y2 := r.object.nodes[i]) (l3 := [.int .u64 0]) (y3 := 0) (l4 := [.int .u64 0]) (y4 := 0) (l5 := [.int .u64 0]) (y5 := 0) (l6 := [.int .u64 0]) (y6 := 0) (l7 := [.int .u64 0]) (y7 := 0) (l8 := [.bool false]) (y8 := false) (l9 := [.bool false]) (y9 := false) (l10 := [.slice none 0 0]) (y10 := []) (l11 := [.slice none 0 0, .slice none 0 0]) (y11 := ⟨[], []⟩) (l12 := [.int .u64 r.object.version, .I i, .int .u64 r.object.epoch, .I r.kk, .I r.nn, .I r.object.size, .int .u32 0]) (y12 := ⟨⟨r.object.version, (i : Int), r.object.epoch⟩, r.kk, r.nn, r.object.size, 0#32⟩) (l13 := [.slice none 0 0]) (y13 := []) (l14 := [.int .u64 0]) (y14 := 0) (l15 := [.int .u64 0]) (y15 := 0) (l16 := [.I 0]) (y16 := 0) (l17 := [.string (⟨#[]⟩)]) (y17 := ⟨#[]⟩) (l18 := [.I 0]) (y18 := 0) (l19 := [.slice none 0 0]) (y19 := []) (Shape.int_mk (by decide)) (Shape.int_mk (by decide)) i64a (Shape.int_mk (by decide)) (Shape.int_mk (by decide)) (Shape.int_mk (by decide)) (Shape.int_mk (by decide)) (Shape.int_mk (by decide)) Shape.bool_mk Shape.bool_mk Shape.slice_nil (conf_mk Shape.slice_nil Shape.slice_nil) (hdr_mk (cid_mk u64a i64a u64a) i64a i64a i64a (Shape.bv_lit (x := 0#32) (by decide))) Shape.slice_nil (Shape.int_mk (by decide)) (Shape.int_mk (by decide)) (Shape.int_mk (by decide)) ⟨rfl, by first | assumption | (simp [maxLen]; done) | decide⟩ (Shape.int_mk (by decide)) Shape.slice_nil) EsP.nil)
  have H : Hp w S [] [_] [_] [Rp (Shape.slice msgS) [.slice (some ⟨L, 0, none⟩) 1 1] ([⟨14, 0, r.object.nodes[i], 0, 0, 0, 0, 0, false, false, [], ⟨[], []⟩, ⟨⟨r.object.version, (i : Int), r.object.epoch⟩, r.kk, r.nn, r.object.size, 0#32⟩, [], 0, 0, 0, ⟨#[]⟩, 0, []⟩] : List Msg), Fc J K [.I (r.object.nodes[i])], _, _, _] _ := H
  refine uA 31 31 296 (asksTo r (i + 1)) H 0 rfl 0 rfl (by rw [← asksTo_yes (by unfold openR; rw [hps, hbd]; simp)]; unfold askOf headR; rw [getD_at' _ (by omega)]) (by have := asksTo_le r (i + 1); omega) ?_
  intro t u _ H _
  have H : Hp w S [] [_] [⟨msgS, 89, .slice t ((asksTo r (i + 1)).length) u, asksTo r (i + 1)⟩] [_, _, _, _, _] _ := H
  refine uF 1 ?_
  refine uR 1 [.c [2, 0, 1, 0, 0, 2], .l [2, 0, 1, 0, 0], .b 0, .c [3]] ?_
  refine qG (sq 0 3) ?_
  refine uP 1 ?_
  refine uI ((i : Int) + 1) ?_
  refine uF 1 ?_
  have H := H.pick [2, 3, 4] rfl
  exact uB (q (i + 1, t, u) _ ⟨H, by omega⟩ (by first | omega | (simp only []; omega)))
 ·
  refine uR 3 [.c [4]] ?_
  refine qT (.slice ao (asksTo r i).length co) Tryz.func19 ?_
  have H : Hp w S [] [_] [] [Rp (Shape.slice msgS) [.slice ao (asksTo r i).length co] (asksTo r i), _, _, _] _ := H.freezeW 0 rfl
  have M : i = r.object.nodes.length := by omega
  subst M
  exact ⟨_, rfl, H.done, _, _, rfl, H.out (H.rp 0 rfl)⟩
set_option maxHeartbeats 2000000 in
theorem rbegin_ok {S : Nat → Prop} {w : World} {O : ObjD} {os : List Value} (hO : objS.rep S w os O) (k n limit : Int) (hb : okB O k n limit) :
 Calls Tryz.prog 6 #[.agg os.toArray, .I k, .I n, .I limit] w (Ret fun v w' => Ext w w' ∧ ∃ (ds : List Value) (a : Option Addr) (c : Nat), v = .tuple #[.agg ds.toArray, .slice a (asksR (beginR O k n limit)).length c, .I 0] ∧ rdS.rep (Nw S w) w' ds (beginR O k n limit) ∧ (Shape.slice msgS).rep (Nw S w) w' [.slice a (asksR (beginR O k n limit)).length c] (asksR (beginR O k n limit))) := by
 obtain ⟨g, h, rfl, i, _, _, _, _, s⟩ := obj_open hO
 obtain ⟨t, _, _, _, _, _⟩ := hb
 have hbl := el_ok.1 t
 unfold okL at hbl
 refine uS1 Tryz.func6 ?_
 have H := Hp.startF (.rp s .nil)
 refine uR 1 [.c [0], .c [1]] ?_
 refine qG (sq 0 4) ?_
 refine uC ((objV O g h).toArray) 26 H ?_
 intro l _ H
 refine uC ((rdZ).toArray) 30 H ?_
 intro m _ H
 refine uF 2 ?_
 refine uR 1 [.c [1, 0], .c [2]] ?_
 refine qG (sq 0 9) ?_
 refine uP 1 ?_
 refine uV 3 2 (H.cells 1 rfl) ?_
 refine uP 1 ?_
 refine uK (r4len_gen (S := fun _ => True) O.size k) ?_
 rintro _ _ u rfl
 have H := H.ext u
 refine uF 5 ?_
 refine uR 2 [.c [2, 0, 0], .c [2, 0, 1], .c [3]] ?_
 refine qG (sq 0 26) ?_
 refine uP 3 ?_
 refine uN 23 (elI O.size k) 0 (fun E => ?_) (fun E => ?_)
 ·
  omega
 ·
  refine uP 5 ?_
  refine uD 28 ((n : Int) < k) (fun F => ?_) (fun F => ?_)
  ·
   omega
  ·
   refine uP 4 ?_
   refine uD 32 ((n : Int) > 255) (fun G => ?_) (fun G => ?_)
   ·
    omega
   ·
    refine qP 1 (sq 13 26) [(1, .I k), (2, .I n), (3, .I limit), (4, .P l 0), (8, .P m 0), (32, .bool false), (33, .P l 6)] ?_
    refine uV 24 6 (H.cells 1 rfl) ?_
    refine uP 5 ?_
    refine uN 39 ((O.nodes.length : Nat) : Int) n (fun x => ?_) (fun x => ?_)
    ·
     omega
    ·
     refine uP 4 ?_
     refine uD 43 ((limit : Int) < 1) (fun y => ?_) (fun y => ?_)
     ·
      omega
     ·
      refine uF 3 ?_
      refine qD ((limit : Int) > 100000) (fun z => ?_) (fun z => ?_)
      ·
       omega
      ·
       refine uR 2 [.c [3, 0], .c [4]] ?_
       refine qG (sq 0 6) ?_
       refine RW.new (κ := .seq) (d := some 48) (r := (sq 1 6)) (o := .cells #[] 3 (0, 0)) (v := fun b => .slice (some ⟨b, 0, none⟩) 0 0) (fun b => by as_aux_lemma => kernel_rfl) (nofun) H ?_
       intro A _ H
       refine uP 1 ?_
       refine uV 24 6 (H.cells 2 rfl) ?_
       have H := H.toOwn (sh := Shape.int .i64) (xs := []) (cap := 0) (by rfl) (Nat.le_refl _) (Nat.zero_le _) (by simp) EsP.nil
       have H : Hp w S [] [(m, .cells (rdZ).toArray 30 (0, 0)), (l, .cells (objV O g h).toArray 26 (0, 0))] [⟨Shape.int .i64, 3, .slice (some ⟨A, 0, none⟩) 0 0, []⟩] [_] _ := H
       refine uA 24 24 8 O.nodes H 0 rfl 0 rfl (rfl) (by omega) ?_
       intro e f _ H _
       have H : Hp w S [] [_, _] [⟨Shape.int .i64, 3, .slice e O.nodes.length f, O.nodes⟩] [_] _ := H
       refine uP 1 ?_
       refine uW 24 6 (objV O e f).toArray H 1 rfl ?_
       intro _ H
       refine uF 0 ?_
       refine uR 1 [.c [4, 0], .c [5]] ?_
       refine qG (sq 0 7) ?_
       refine uV 26 0 (H.cells 1 rfl) ?_
       refine uP 4 ?_
       refine uC ((rdZ).toArray) 30 H ?_
       intro B _ H
       refine uW 30 0 #[.string O.key, .int .u64 O.version, .I O.size, .int .u32 ((O.sum.toNat : Nat) : Int), .I O.group, .int .u64 O.epoch, .slice e O.nodes.length f, .I k, .I n, .slice none 0 0, .slice none 0 0, .I 0, .I limit, .I 0] H 0 rfl ?_
       intro j H
       refine uF 0 ?_
       refine qR 1 [.c [5, 0], .c [6]] [(8, .P m 0), (13, .P B 0)] ?_
       refine WK.draw1 3 [(0, .qui), (1, .qui), (2, .chn)] [(0, .qui), (1, .qui), (2, .chn), (3, .seq), (4, .seq), (5, .seq)] Try_mixed (by as_aux_lemma => kernel_rfl) (by as_aux_lemma => kernel_rfl) (by as_aux_lemma => kernel_rfl) ?_
       have H := H.draw
       generalize ({ j with drawn := j.drawn + 1 } : World) = J at H ⊢
       refine uV 30 0 (H.cells 0 rfl) ?_
       refine uV 30 0 (H.cells 0 rfl) ?_
       have H : Hp w S [] [_, _, _] [] [Rp (Shape.slice (Shape.int .i64)) [.slice e O.nodes.length f] O.nodes, _] _ := H.freezeW 0 rfl
       refine uK (rmsgs_spec (r := ⟨O, k, n, [], [], 0, limit, 0⟩) (rd_mk (y0 := O) (obj_mk (y0 := O.key) (y1 := O.version) (y2 := O.size) (y3 := O.sum) (y4 := O.group) (y5 := O.epoch) (y6 := O.nodes) ⟨rfl, i⟩ u64a i64a Shape.bv_mk i64a u64a (H.rp 0 rfl)) i64a i64a Shape.slice_nil Shape.slice_nil (Shape.int_mk (by decide)) i64a (Shape.int_mk (by decide))) (by show O.nodes.length ≤ 1000000; omega) rfl rfl) ?_
       rintro _ _ p ⟨C, D, rfl, q⟩
       have H := H.addM p q
       refine uW 30 0 #[.string O.key, .int .u64 O.version, .I O.size, .int .u32 ((O.sum.toNat : Nat) : Int), .I O.group, .int .u64 O.epoch, .slice e O.nodes.length f, .I k, .I n, .slice none 0 0, .slice none 0 0, .I 0, .I limit, .I 0] H 1 rfl ?_
       intro _ H
       refine uF 2 ?_
       refine qRB (.tuple #[.agg #[.string O.key, .int .u64 O.version, .I O.size, .int .u32 ((O.sum.toNat : Nat) : Int), .I O.group, .int .u64 O.epoch, .slice e O.nodes.length f, .I k, .I n, .slice none 0 0, .slice none 0 0, .I 0, .I limit, .I 0], .slice C ((asksR (⟨O, k, n, [], [], 0, limit, 0⟩)).length) D, .I 0]) Tryz.func6 (v3 (.cell 8 30) (.tmp 9) (.tmp 10) (vC (H.cells 1 rfl)) vT vT) ?_
       exact ⟨_, rfl, H.done, [.string O.key, .int .u64 O.version, .I O.size, .int .u32 ((O.sum.toNat : Nat) : Int), .I O.group, .int .u64 O.epoch, .slice e O.nodes.length f, .I k, .I n, .slice none 0 0, .slice none 0 0, .I 0, .I limit, .I 0], _, _, rfl, H.out (rd_mk (y0 := O) (obj_mk (y0 := O.key) (y1 := O.version) (y2 := O.size) (y3 := O.sum) (y4 := O.group) (y5 := O.epoch) (y6 := O.nodes) ⟨rfl, i⟩ u64a i64a Shape.bv_mk i64a u64a (H.rp 1 rfl)) i64a i64a Shape.slice_nil Shape.slice_nil (Shape.int_mk (by decide)) i64a (Shape.int_mk (by decide))), H.out (H.rp 0 rfl)⟩
theorem rbegin_bad {S : Nat → Prop} {w : World} {O : ObjD} {os : List Value} (hO : objS.rep S w os O) (k n limit : Int) (hb : ¬ okB O k n limit) :
 Calls Tryz.prog 6 #[.agg os.toArray, .I k, .I n, .I limit] w (Ret fun v w' => Ext w w' ∧ v = .tuple #[.agg (rdZ).toArray, .slice none 0 0, .I 2]) := by
 obtain ⟨f, g, rfl, _, _, _, _, _, h⟩ := obj_open hO
 unfold okB at hb
 refine uS1 Tryz.func6 ?_
 have H := Hp.startF (.rp h .nil)
 refine uR 1 [.c [0], .c [1]] ?_
 refine qG (sq 0 4) ?_
 refine uC ((objV O f g).toArray) 26 H ?_
 intro i _ H
 refine uC ((rdZ).toArray) 30 H ?_
 intro e _ H
 refine uF 2 ?_
 refine uR 1 [.c [1, 0], .c [2]] ?_
 refine qG (sq 0 9) ?_
 refine uP 1 ?_
 refine uV 3 2 (H.cells 1 rfl) ?_
 refine uP 1 ?_
 refine uK (r4len_gen (S := fun _ => True) O.size k) ?_
 rintro _ _ j rfl
 have H := H.ext j
 refine uF 5 ?_
 refine uR 2 [.c [2, 0, 0], .c [2, 0, 1], .c [3]] ?_
 refine WK.join (fun b_ : Bool => b_ = decide (elI O.size k ≠ 0 ∨ n < k ∨ n > 255 ∨ (O.nodes.length : Int) ≠ n ∨ limit < 1 ∨ limit > 100000)) (fun b_ => [(1, .I k), (2, .I n), (3, .I limit), (4, .P i 0), (8, .P e 0), (46, .bool b_)]) [Cq Tryz.prog 6 [2, 0, 1], Cq Tryz.prog 6 [3]] (fun b => ?_) (fun l d => ?_)
 ·
  refine qG (sq 0 26) ?_
  refine uP 3 ?_
  refine uN 23 (elI O.size k) 0 (fun m => ?_) (fun m => ?_)
  ·
   refine uF 23 ?_
   exact uB (b true ((decide_eq_true (by omega)).symm))
  ·
   refine uP 5 ?_
   refine uD 28 ((n : Int) < k) (fun o => ?_) (fun o => ?_)
   ·
    refine qF 18 [(1, .I k), (2, .I n), (3, .I limit), (4, .P i 0), (8, .P e 0), (46, .bool true)] ?_
    exact uB (b true ((decide_eq_true (by omega)).symm))
   ·
    refine uP 4 ?_
    refine uD 32 ((n : Int) > 255) (fun p => ?_) (fun p => ?_)
    ·
     refine uF 14 ?_
     exact uB (b true ((decide_eq_true (by omega)).symm))
    ·
     refine uP 1 ?_
     refine uV 24 6 (H.cells 1 rfl) ?_
     refine uP 5 ?_
     refine uN 39 ((O.nodes.length : Nat) : Int) n (fun q => ?_) (fun q => ?_)
     ·
      refine uF 7 ?_
      exact uB (b true ((decide_eq_true (by omega)).symm))
     ·
      refine uP 4 ?_
      refine uD 43 ((limit : Int) < 1) (fun r => ?_) (fun r => ?_)
      ·
       refine uF 3 ?_
       exact uB (b true ((decide_eq_true (by omega)).symm))
      ·
       refine uF 3 ?_
       exact uB (b (decide ((limit : Int) > 100000)) (decide_eq_decide.2 (by constructor <;> intro _ <;> omega)))
 ·
  refine qC l (fun a => ?_) (fun a => ?_)
  ·
   rw [d] at a
   replace a := of_decide_eq_true a
   refine qR 1 [.c [2, 0, 1, 0, 0], .c [2, 0, 1, 0, 1], .c [3]] [(8, .P e 0)] ?_
   refine qG (sq 0 4) ?_
   refine uP 1 ?_
   refine uW 30 0 (rdZ).toArray H 0 rfl ?_
   intro _ H
   refine uF 2 ?_
   refine qRB (.tuple #[.agg (rdZ).toArray, .slice none 0 0, .I 2]) Tryz.func6 (v3 (.cell 8 30) (.tmp 9) (.tmp 10) (vC (H.cells 0 rfl)) vT vT) ?_
   exact ⟨_, rfl, H.done, rfl⟩
  ·
   rw [d] at a
   replace a := of_decide_eq_false a
   exact absurd (by omega) hb
theorem moves0_spec {S : Nat → Prop} {w : World} {xs : List Int} {a b : Option Addr} {c d : Nat} (h : (Shape.slice (Shape.int .i64)).rep S w [.slice a xs.length c] xs) (h2 : (Shape.slice (Shape.int .i64)).rep S w [.slice b xs.length d] xs) :
 Calls Tryz.prog 38 #[.slice a xs.length c, .slice b xs.length d] w (Ret fun v w' => Ext w w' ∧ v = .I 0) := by
 have hxl := Shape.slice_len h
 refine uS1 Tryz.func38 ?_
 have H := Hp.startF (.rp h (.rp h2 .nil))
 refine uR 3 [.c [1, 0], .c [2]] ?_
 refine qG (sq 0 12) ?_
 refine uP 4 ?_
 refine RW.pv (κ := .seq) (d := some 11) (r := (sq 5 12)) (v' := .I ((xs.length : Nat) : Int)) (v := .I (if ((xs.length : Nat) : Int) > ((xs.length : Nat) : Int) then ((xs.length : Nat) : Int) else ((xs.length : Nat) : Int))) (by as_aux_lemma => kernel_rfl) (by simp) ?_
 refine uP 4 ?_
 refine RW.pv (κ := .seq) (d := some 16) (r := (sq 10 12)) (v' := .I ((xs.length : Nat) : Int)) (v := .I (if ((xs.length : Nat) : Int) < ((xs.length : Nat) : Int) then ((xs.length : Nat) : Int) else ((xs.length : Nat) : Int))) (by as_aux_lemma => kernel_rfl) (by simp) ?_
 refine uI (((xs.length : Nat) : Int) - ((xs.length : Nat) : Int)) ?_
 refine uF 1 ?_
 refine qR 4 [.c [2, 0, 1, 0], .b 0, .c [3]] [(0, .slice a xs.length c), (1, .slice b xs.length d), (5, .I (((xs.length : Nat) : Int) - ((xs.length : Nat) : Int))), (6, .I 0)] ?_
 refine WK.loop (α := Nat) (b := cd Tryz.prog 38 [2, 0, 1, 0, 0]) (by as_aux_lemma => kernel_rfl) (fun i => [(0, .slice a xs.length c), (1, .slice b xs.length d), (5, .I 0), (6, .I i)]) (fun i w' => Hp w S [] [] [] [Rp (Shape.slice (Shape.int .i64)) [.slice a xs.length c] xs, Rp (Shape.slice (Shape.int .i64)) [.slice b xs.length d] xs] w' ∧ i ≤ xs.length) (fun i => xs.length - i) 0 ⟨H, Nat.zero_le _⟩ (by rw [Int.sub_self]; rfl) ?_
 rintro i p ⟨H, _⟩ f
 refine uR 2 [.c [2, 0, 1, 0, 0, 0, 0], .c [2, 0, 1, 0, 0, 0, 1], .c [2, 0, 1, 0, 0, 1], .l [2, 0, 1, 0, 0], .b 0, .c [3]] ?_
 refine WK.join (fun b_ : Bool => b_ = decide ((i : Int) < ((xs.length : Nat) : Int))) (fun b_ => [(0, .slice a xs.length c), (1, .slice b xs.length d), (5, .I 0), (6, .I i), (27, .bool b_)]) [Cq Tryz.prog 38 [2, 0, 1, 0, 0, 0, 1], Cq Tryz.prog 38 [2, 0, 1, 0, 0, 1], Lq Tryz.prog 38 [2, 0, 1, 0, 0], .inBlock 0, Cq Tryz.prog 38 [3]] (fun m => ?_) (fun q g => ?_)
 ·
  refine qG (sq 0 10) ?_
  refine uP 5 ?_
  refine uD 22 (((i : Int) : Int) < ((xs.length : Nat) : Int)) (fun t => ?_) (fun t => ?_)
  ·
   refine uF 5 ?_
   exact uB (m (decide (((i : Int) : Int) < ((xs.length : Nat) : Int))) (decide_eq_decide.2 (by constructor <;> intro _ <;> omega)))
  ·
   refine uF 5 ?_
   exact uB (m false ((decide_eq_false (by omega)).symm))
 ·
  refine qC q (fun e => ?_) (fun e => ?_)
  ·
   rw [g] at e
   replace e := of_decide_eq_true e
   refine uR 4 [.c [2, 0, 1, 0, 0, 1, 0, 0, 0], .c [2, 0, 1, 0, 0, 1, 0, 0, 1], .b 1, .c [2, 0, 1, 0, 0, 2], .l [2, 0, 1, 0, 0], .b 0, .c [3]] ?_
   refine WK.draw1 9 (qs [0, 1, 2, 3, 4, 5, 6, 7, 8]) (qs [0, 1, 2, 3, 4, 5, 6, 7, 8]) Try_mixed (by as_aux_lemma => kernel_rfl) (by as_aux_lemma => kernel_rfl) (by as_aux_lemma => kernel_rfl) ?_
   have H := H.draw
   generalize ({ p with drawn := p.drawn + 1 } : World) = y at H ⊢
   refine uP 2 ?_
   have s : i < xs.length := by omega
   refine uX 24 (i : Int) H 0 rfl i (by omega) (List.getElem?_eq_getElem s) ?_
   intro _ _ _ j H
   have u := Shape.i64_bd j
   obtain ⟨rfl, -⟩ := j
   refine uV 3 0 (H.fc 0 rfl) ?_
   refine uP 2 ?_
   have o : i < xs.length := by omega
   refine uX 24 (i : Int) H 2 rfl i (by omega) (List.getElem?_eq_getElem o) ?_
   intro _ _ _ k H
   have x := Shape.i64_bd k
   obtain ⟨rfl, -⟩ := k
   refine uV 3 0 (H.fc 0 rfl) ?_
   refine uF 1 ?_
   refine qN (xs[i]) (xs[i]) (fun n => ?_) (fun n => ?_)
   ·
    exact absurd rfl n
   ·
    refine uR 2 [.c [2, 0, 1, 0, 0, 2], .l [2, 0, 1, 0, 0], .b 0, .c [3]] ?_
    refine qG (sq 0 3) ?_
    refine uP 1 ?_
    refine uI ((i : Int) + 1) ?_
    refine qF 1 [(0, .slice a xs.length c), (1, .slice b xs.length d), (5, .I 0), (6, .I ((i : Int) + 1))] ?_
    have H := H.pick [2, 3] rfl
    exact uB (f (i + 1) _ ⟨H, by omega⟩ (by first | omega | (simp only []; omega)))
  ·
   rw [g] at e
   replace e := of_decide_eq_false e
   refine uR 3 [.c [4]] ?_
   refine qT (.I 0) Tryz.func38 ?_
   exact ⟨_, rfl, H.done, rfl⟩
theorem ints_eq {S : Nat → Prop} {w : World} {xs : List Int} {a b : Option Addr} {c d : Nat} (h : (Shape.slice (Shape.int .i64)).rep S w [.slice a xs.length c] xs) (h2 : (Shape.slice (Shape.int .i64)).rep S w [.slice b xs.length d] xs) :
 Calls Tryz.prog 20 #[.slice a xs.length c, .slice b xs.length d] w (Ret fun v w' => Ext w w' ∧ v = .bool true) := by
 refine uS1 Tryz.func20 ?_
 have H := Hp.startF (.rp h (.rp h2 .nil))
 refine uR 3 [.c [1, 0], .c [2]] ?_
 refine qG (sq 0 12) ?_
 refine uP 6 ?_
 refine uE 10 ((xs.length : Nat) : Int) ((xs.length : Nat) : Int) (fun e => ?_) (fun e => ?_)
 ·
  refine uP 2 ?_
  refine uK (moves0_spec (S := fun _ => True) (xs := xs) (H.viewF 0 rfl) (H.viewF 1 rfl)) ?_
  rintro _ _ f rfl
  have H := H.ext f
  refine uF 3 ?_
  refine qT (.bool true) Tryz.func20 ?_
  exact ⟨_, rfl, H.done, rfl⟩
 ·
  exact absurd rfl e
end Go.Proofs.YtppcdmbkgficiaaGreat
