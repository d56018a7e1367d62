import Derived.Test.YtppcdmbkgficiaaGreatSBxB
import Derived.Test.YtppcdmbkgficiaaGreatSF2
namespace Go.Proofs.YtppcdmbkgficiaaGreat
open Go.BX
def askOf (r : Rd) (i : Nat) : Msg := ⟨14, 0, r.object.nodes.getD i 0, 0, 0, 0, 0, 0, false, false, [], ⟨[], []⟩, headR r (i : Int), [], 0, 0, 0, ⟨#[]⟩, 0, []⟩
def asksTo (r : Rd) (n : Nat) : List Msg := (List.range n).filterMap fun (i : Nat) => if openR r (i : Int) = true then some (askOf r i) else none
def asksR (r : Rd) : List Msg := asksTo r r.object.nodes.length
theorem asksTo_yes {r : Rd} {i : Nat} (h : openR r (i : Int) = true) : asksTo r i ++ [askOf r i] = asksTo r (i + 1) := by
 unfold asksTo
 rw [List.range_succ, List.filterMap_append]
 simp [h]
theorem asksTo_no {r : Rd} {i : Nat} (h : openR r (i : Int) = false) : asksTo r i = asksTo r (i + 1) := by
 unfold asksTo
 rw [List.range_succ, List.filterMap_append]
 simp [h]
theorem asksTo_le (r : Rd) (i : Nat) : (asksTo r i).length ≤ i := by
 have := List.length_filterMap_le (fun i : Nat => if openR r (i : Int) = true then some (askOf r i) else none) (List.range i)
 rwa [List.length_range] at this
theorem getD_at' {α : Type} {l : List α} {i : Nat} (d : α) (h : i < l.length) : l.getD i d = l[i] := by
 simp [h]
set_option maxHeartbeats 4000000 in
theorem asks_spec {S : Nat → Prop} {w : World} {r : Rd} {cs : List Value} (hr : rdS.rep S w cs r) (hn : r.object.nodes.length ≤ 1000000) :
 Calls Tryz.prog 16 #[.agg cs.toArray, .func (.func 17) #[] #[]] w (Ret fun v w' => Ext w w' ∧ ∃ (a : Option Addr) (c : Nat), v = .slice a (asksR r).length c ∧ (Shape.slice msgS).rep (Nw S w) w' [.slice a (asksR r).length c] (asksR r)) := by
 obtain ⟨_, m, n, q, s, rfl, D, _, _, E, F, _, _, _⟩ := rd_open hr
 obtain ⟨e, f, rfl, _, _, _, _, _, j⟩ := obj_open D
 refine uS1 Tryz.func16 ?_
 have H := Hp.startF (.rp j (.rp E (.rp F .nil)))
 refine uR 1 [.c [0], .c [1]] ?_
 refine qG (sq 0 2) ?_
 refine uC ((rdV r e f m n q s).toArray) 30 H ?_
 intro t _ H
 refine uF 1 ?_
 refine uR 4 [.c [2, 0, 0], .c [2, 0, 1], .c [3]] ?_
 refine qG (sq 0 5) ?_
 refine uP 2 ?_
 refine uV 24 6 (H.cells 0 rfl) ?_
 refine uF 2 ?_
 refine uR 1 [.c [2, 0, 1, 0], .b 0, .c [3]] ?_
 have H := H.ownNil msgS 89
 refine uL (α := Nat × Option Addr × Nat) (g := 16) (p := [2, 0, 1, 0, 0]) (fun (i, ao, co) => [(1, .func (.func 17) #[] #[]), (2, .P t 0), (5, .slice ao (asksTo r i).length co), (10, .slice e r.object.nodes.length f), (11, .I ((r.object.nodes.length : Nat) : Int)), (12, .I i)]) (fun (i, ao, co) w' => Hp w S [] [(t, .cells (rdV r e f m n q s).toArray 30 (0, 0))] [⟨msgS, 89, .slice ao (asksTo r i).length co, asksTo r i⟩] [Rp (Shape.slice (Shape.int .i64)) [.slice e r.object.nodes.length f] r.object.nodes, Rp (Shape.slice pcS) [.slice m r.pieces.length n] r.pieces, Rp (Shape.slice (Shape.int .i64)) [.slice q r.bad.length s] r.bad] w' ∧ i ≤ r.object.nodes.length) (fun (i, ao, co) => r.object.nodes.length - i) (0, none, 0) ⟨H, Nat.zero_le _⟩ ?_
 rintro ⟨i, ao, co⟩ _ ⟨H, _⟩ k
 have hml := asksTo_le r i
 refine uR 3 [.c [2, 0, 1, 0, 0, 1, 0], .c [2, 0, 1, 0, 0, 2], .l [2, 0, 1, 0, 0], .b 0, .c [3]] ?_
 refine qD (((i : Int) : Int) < ((r.object.nodes.length : Nat) : Int)) (fun L => ?_) (fun L => ?_)
 ·
  refine uR 4 [.c [2, 0, 1, 0, 0, 2, 0, 0, 0], .c [2, 0, 1, 0, 0, 2, 0, 0, 1], .b 1, .c [2, 0, 1, 0, 0, 3], .l [2, 0, 1, 0, 0], .b 0, .c [3]] ?_
  refine qG (sq 0 5) ?_
  refine uP 1 ?_
  have G : i < r.object.nodes.length := by omega
  refine uX 24 (i : Int) H 0 rfl i (by omega) (List.getElem?_eq_getElem G) ?_
  intro M N _ u H
  have O := Shape.i64_bd u
  obtain ⟨rfl, -⟩ := u
  refine uV 3 0 (H.fc 0 rfl) ?_
  refine uF 2 ?_
  refine uR 1 [.c [2, 0, 1, 0, 0, 2, 0, 0, 1, 0], .c [2, 0, 1, 0, 0, 2, 0, 0, 2], .b 1, .c [2, 0, 1, 0, 0, 3], .l [2, 0, 1, 0, 0], .b 0, .c [3]] ?_
  refine qG (sq 0 4) ?_
  refine uP 1 ?_
  refine uV 30 0 (H.cells 0 rfl) ?_
  refine uP 1 ?_
  refine uK (open_spec (r := r) (rd_mkB (by unfold rdB; omega) (H.rp 1 rfl) (H.rp 2 rfl) (H.rp 3 rfl)) (i : Int)) ?_
  rintro _ _ B rfl
  have H := H.ext B
  refine uF 0 ?_
  refine qC (openR r (i : Int)) (fun y => ?_) (fun y => ?_)
  ·
   refine qG (sq 0 9) ?_
   refine uP 2 ?_
   refine uV 30 0 (H.cells 0 rfl) ?_
   refine uP 1 ?_
   refine uK (head_spec (r := r) (rd_mkB (by unfold rdB; omega) (H.rp 1 rfl) (H.rp 2 rfl) (H.rp 3 rfl)) (i : Int)) ?_
   rintro _ _ C rfl
   have H := H.ext C
   refine qP 1 (sq 6 9) [(1, .func (.func 17) #[] #[]), (2, .P t 0), (5, .slice ao (asksTo r i).length co), (10, .slice e r.object.nodes.length f), (11, .I ((r.object.nodes.length : Nat) : Int)), (12, .I i), (21, .slice ao (asksTo r i).length co), (26, .agg #[.I 14, .I 0, .I (r.object.nodes[i]), .int .u64 0, .int .u64 0, .int .u64 0, .int .u64 0, .int .u64 0, .bool false, .bool false, .slice none 0 0, .slice none 0 0, .slice none 0 0, .int .u64 r.object.version, .I i, .int .u64 r.object.epoch, .I r.kk, .I r.nn, .I r.object.size, .int .u32 0, .slice none 0 0, .int .u64 0, .int .u64 0, .I 0, .string (⟨#[]⟩), .I 0, .slice none 0 0])] ?_
   refine RW.new (κ := .seq) (d := some 27) (r := (sq 7 9)) (o := .cells #[.I 14, .I 0, .I (r.object.nodes[i]), .int .u64 0, .int .u64 0, .int .u64 0, .int .u64 0, .int .u64 0, .bool false, .bool false, .slice none 0 0, .slice none 0 0, .slice none 0 0, .int .u64 r.object.version, .I i, .int .u64 r.object.epoch, .I r.kk, .I r.nn, .I r.object.size, .int .u32 0, .slice none 0 0, .int .u64 0, .int .u64 0, .I 0, .string (⟨#[]⟩), .I 0, .slice none 0 0] 89 (0, 0)) (v := fun b => .slice (some ⟨b, 0, none⟩) 1 1) (fun b => by as_aux_lemma => kernel_rfl) (nofun) H ?_
   intro J _ H
   have H := H.freeze 0 rfl msgS ([⟨14, 0, r.object.nodes[i], 0, 0, 0, 0, 0, false, false, [], ⟨[], []⟩, ⟨⟨r.object.version, (i : Int), r.object.epoch⟩, r.kk, r.nn, r.object.size, 0#32⟩, [], 0, 0, 0, ⟨#[]⟩, 0, []⟩] : List Msg) 1 (by simp [maxLen]) (by first | exact Nat.le_refl _ | simp) (EsP.cons (c := [.I 14, .I 0, .I (r.object.nodes[i]), .int .u64 0, .int .u64 0, .int .u64 0, .int .u64 0, .int .u64 0, .bool false, .bool false, .slice none 0 0, .slice none 0 0, .slice none 0 0, .int .u64 r.object.version, .I i, .int .u64 r.object.epoch, .I r.kk, .I r.nn, .I r.object.size, .int .u32 0, .slice none 0 0, .int .u64 0, .int .u64 0, .I 0, .string (⟨#[]⟩), .I 0, .slice none 0 0]) (msg_mk (l0 := [.I 14]) (y0 := 14) (l1 := [.I 0]) (y1 := 0) (l2 := [.I (r.object.nodes[i])]) (y2 := r.object.nodes[i]) (l3 := [.int .u64 0]) (y3 := 0) (l4 := [.int .u64 0]) (y4 := 0) (l5 := [.int .u64 0]) (y5 := 0) (l6 := [.int .u64 0]) (y6 := 0) (l7 := [.int .u64 0]) (y7 := 0) (l8 := [.bool false]) (y8 := false) (l9 := [.bool false]) (y9 := false) (l10 := [.slice none 0 0]) (y10 := []) (l11 := [.slice none 0 0, .slice none 0 0]) (y11 := ⟨[], []⟩) (l12 := [.int .u64 r.object.version, .I i, .int .u64 r.object.epoch, .I r.kk, .I r.nn, .I r.object.size, .int .u32 0]) (y12 := ⟨⟨r.object.version, (i : Int), r.object.epoch⟩, r.kk, r.nn, r.object.size, 0#32⟩) (l13 := [.slice none 0 0]) (y13 := []) (l14 := [.int .u64 0]) (y14 := 0) (l15 := [.int .u64 0]) (y15 := 0) (l16 := [.I 0]) (y16 := 0) (l17 := [.string (⟨#[]⟩)]) (y17 := ⟨#[]⟩) (l18 := [.I 0]) (y18 := 0) (l19 := [.slice none 0 0]) (y19 := []) (Shape.int_mk (by decide)) (Shape.int_mk (by decide)) i64a (Shape.int_mk (by decide)) (Shape.int_mk (by decide)) (Shape.int_mk (by decide)) (Shape.int_mk (by decide)) (Shape.int_mk (by decide)) Shape.bool_mk Shape.bool_mk Shape.slice_nil (conf_mk Shape.slice_nil Shape.slice_nil) (hdr_mk (cid_mk u64a i64a u64a) i64a i64a i64a (Shape.bv_lit (x := 0#32) (by decide))) Shape.slice_nil (Shape.int_mk (by decide)) (Shape.int_mk (by decide)) (Shape.int_mk (by decide)) ⟨rfl, by first | assumption | (simp [maxLen]; done) | decide⟩ (Shape.int_mk (by decide)) Shape.slice_nil) EsP.nil)
   have H : Hp w S [] [_] [_] [Rp (Shape.slice msgS) [.slice (some ⟨J, 0, none⟩) 1 1] ([⟨14, 0, r.object.nodes[i], 0, 0, 0, 0, 0, false, false, [], ⟨[], []⟩, ⟨⟨r.object.version, (i : Int), r.object.epoch⟩, r.kk, r.nn, r.object.size, 0#32⟩, [], 0, 0, 0, ⟨#[]⟩, 0, []⟩] : List Msg), Fc M N [.I (r.object.nodes[i])], _, _, _] _ := H
   refine uA 31 31 296 (asksTo r (i + 1)) H 0 rfl 0 rfl (by rw [← asksTo_yes (by first | assumption | simp_all)]; unfold askOf headR; rw [getD_at' _ (by omega)]) (by have := asksTo_le r (i + 1); omega) ?_
   intro z A _ H _
   have H : Hp w S [] [_] [⟨msgS, 89, .slice z ((asksTo r (i + 1)).length) A, asksTo r (i + 1)⟩] [_, _, _, _, _] _ := H
   refine uF 1 ?_
   refine uR 1 [.c [2, 0, 1, 0, 0, 3], .l [2, 0, 1, 0, 0], .b 0, .c [3]] ?_
   refine qG (sq 0 2) ?_
   refine uI ((i : Int) + 1) ?_
   refine qF 1 [(1, .func (.func 17) #[] #[]), (2, .P t 0), (5, .slice z ((asksTo r (i + 1)).length) A), (10, .slice e r.object.nodes.length f), (11, .I ((r.object.nodes.length : Nat) : Int)), (12, .I ((i : Int) + 1))] ?_
   have H := H.pick [2, 3, 4] rfl
   exact WK.back (k (i + 1, z, A) _ ⟨H, by omega⟩ (by first | omega | (simp only []; omega))) (by first | rfl | (rw [asksTo_no h]; rfl))
  ·
   have h : openR r (i : Int) = false := by first | exact y | (simpa using y)
   refine uR 2 [.c [2, 0, 1, 0, 0, 3], .l [2, 0, 1, 0, 0], .b 0, .c [3]] ?_
   refine qG (sq 0 2) ?_
   refine uI ((i : Int) + 1) ?_
   refine qF 1 [(1, .func (.func 17) #[] #[]), (2, .P t 0), (5, .slice ao (asksTo r i).length co), (10, .slice e r.object.nodes.length f), (11, .I ((r.object.nodes.length : Nat) : Int)), (12, .I ((i : Int) + 1))] ?_
   have H := H.reW (asksTo_no h) (by rw [asksTo_no h])
   have H := H.pick [1, 2, 3] rfl
   exact WK.back (k (i + 1, ao, co) _ ⟨H, by omega⟩ (by first | omega | (simp only []; omega))) (by first | rfl | (rw [asksTo_no h]; rfl))
 ·
  refine uR 3 [.c [4]] ?_
  refine qT (.slice ao (asksTo r i).length co) Tryz.func16 ?_
  have H : Hp w S [] [_] [] [Rp (Shape.slice msgS) [.slice ao (asksTo r i).length co] (asksTo r i), _, _, _] _ := H.freezeW 0 rfl
  have K : i = r.object.nodes.length := by omega
  subst K
  exact ⟨_, rfl, H.done, _, _, rfl, H.out (H.rp 0 rfl)⟩
def okL (size k : Int) : Prop := 0 ≤ size ∧ size ≤ 65536 ∧ 1 ≤ k ∧ k ≤ 255
instance (size k : Int) : Decidable (okL size k) := by unfold okL; infer_instance
def llI (size k : Int) : Int := if okL size k then ((lenOf size.toNat k.toNat : Nat) : Int) else 0
def elI (size k : Int) : Int := if okL size k then 0 else 2
theorem el_ok {size k : Int} : elI size k = 0 ↔ okL size k := by
 unfold elI
 by_cases h : okL size k
 · rw [if_pos h]; exact ⟨fun _ => h, fun _ => rfl⟩
 · rw [if_neg h]; exact ⟨fun e => (by cases e), fun e => absurd e h⟩
theorem length_gen {S : Nat → Prop} {w : World} (size k : Int) : Calls Tryz.prog 14 #[.I size, .I k] w (Ret fun v w' => Ext w w' ∧ v = .tuple #[.I (llI size k), .I (elI size k)]) := by
 by_cases h : okL size k
 · have a := h
   unfold okL at a
   obtain ⟨size, rfl⟩ : ∃ m : Nat, size = (m : Int) := ⟨size.toNat, by omega⟩
   obtain ⟨k, rfl⟩ : ∃ m : Nat, k = (m : Int) := ⟨k.toNat, by omega⟩
   unfold llI elI
   rw [if_pos h, if_pos h]
   exact length_ok (S := S) size k (by omega) (by omega) (by omega)
 · unfold llI elI
   rw [if_neg h, if_neg h]
   exact length_bad (S := S) size k h
def beginR (O : ObjD) (k n limit : Int) : Rd := ⟨O, k, n, [], [], 0, limit, 0⟩
def okB (O : ObjD) (k n limit : Int) : Prop := elI O.size k = 0 ∧ k ≤ n ∧ n ≤ 255 ∧ (O.nodes.length : Int) = n ∧ 1 ≤ limit ∧ limit ≤ 100000
set_option maxHeartbeats 2000000 in
theorem fbegin_ok {S : Nat → Prop} {w : World} {O : ObjD} {os : List Value} (hO : objS.rep S w os O) (k n limit : Int) (hb : okB O k n limit) :
 Calls Tryz.prog 5 #[.agg os.toArray, .I k, .I n, .I limit] w (Ret fun v w' => Ext w w' ∧ ∃ (ds : List Value) (a : Option Addr) (c : Nat), v = .tuple #[.agg ds.toArray, .slice a (asksR (beginR O k n limit)).length c, .I 0] ∧ rdS.rep (Nw S w) w' ds (beginR O k n limit) ∧ (Shape.slice msgS).rep (Nw S w) w' [.slice a (asksR (beginR O k n limit)).length c] (asksR (beginR O k n limit))) := by
 obtain ⟨e, f, rfl, g, _, _, _, _, o⟩ := obj_open hO
 obtain ⟨p, _, _, _, _, _⟩ := hb
 have hbl := el_ok.1 p
 unfold okL at hbl
 refine uS1 Tryz.func5 ?_
 have H := Hp.startF (.rp o .nil)
 refine uR 1 [.c [0], .c [1]] ?_
 refine qG (sq 0 4) ?_
 refine uC ((objV O e f).toArray) 26 H ?_
 intro i _ H
 refine uC ((rdZ).toArray) 30 H ?_
 intro j _ H
 refine uF 2 ?_
 refine uR 2 [.c [1, 0, 0], .c [1, 0, 1], .c [2]] ?_
 refine qG (sq 0 9) ?_
 refine uP 1 ?_
 refine uV 3 2 (H.cells 1 rfl) ?_
 refine uP 1 ?_
 refine uK (length_gen (S := fun _ => True) O.size k) ?_
 rintro _ _ q rfl
 have H := H.ext q
 refine uF 5 ?_
 refine uR 1 [.c [1, 0, 1, 0], .c [1, 0, 2], .c [2]] ?_
 refine qG (sq 0 26) ?_
 refine uP 3 ?_
 refine uN 23 (elI O.size k) 0 (fun A => ?_) (fun A => ?_)
 ·
  omega
 ·
  refine uP 5 ?_
  refine uD 28 ((n : Int) < k) (fun B => ?_) (fun B => ?_)
  ·
   omega
  ·
   refine uP 4 ?_
   refine uD 32 ((n : Int) > 255) (fun C => ?_) (fun C => ?_)
   ·
    omega
   ·
    refine qP 1 (sq 13 26) [(1, .I k), (2, .I n), (3, .I limit), (4, .P i 0), (8, .P j 0), (32, .bool false), (33, .P i 6)] ?_
    refine uV 24 6 (H.cells 1 rfl) ?_
    refine uP 5 ?_
    refine uN 39 ((O.nodes.length : Nat) : Int) n (fun s => ?_) (fun s => ?_)
    ·
     omega
    ·
     refine uP 4 ?_
     refine uD 43 ((limit : Int) < 1) (fun t => ?_) (fun t => ?_)
     ·
      omega
     ·
      refine uF 3 ?_
      refine qD ((limit : Int) > 100000) (fun u => ?_) (fun u => ?_)
      ·
       omega
      ·
       refine uR 2 [.c [2, 0], .c [3]] ?_
       refine qG (sq 0 5) ?_
       refine uP 1 ?_
       refine uV 24 6 (H.cells 1 rfl) ?_
       refine uK (clone_spec (H.rp 0 rfl) (by omega)) ?_
       rintro _ _ - H'
       have H := H.back (M1 := []) (W1 := []) H'
       obtain ⟨b, d, rfl, _, _⟩ := H.ownForm 0 rfl
       have H : Hp w S [] [(j, .cells (rdZ).toArray 30 (0, 0)), (i, .cells (objV O e f).toArray 26 (0, 0))] [⟨Shape.int .i64, 3, .slice b O.nodes.length d, O.nodes⟩] [_] _ := H
       refine uP 1 ?_
       refine uW 24 6 (objV O b d).toArray H 1 rfl ?_
       intro _ H
       refine uF 0 ?_
       refine uR 1 [.c [3, 0], .c [4]] ?_
       refine qG (sq 0 7) ?_
       refine uV 26 0 (H.cells 1 rfl) ?_
       refine uP 4 ?_
       refine uC ((rdZ).toArray) 30 H ?_
       intro x _ H
       refine uW 30 0 #[.string O.key, .int .u64 O.version, .I O.size, .int .u32 ((O.sum.toNat : Nat) : Int), .I O.group, .int .u64 O.epoch, .slice b O.nodes.length d, .I k, .I n, .slice none 0 0, .slice none 0 0, .I 0, .I limit, .I 0] H 0 rfl ?_
       intro h H
       refine uF 0 ?_
       refine qR 1 [.c [4, 0], .c [5]] [(8, .P j 0), (13, .P x 0)] ?_
       refine WK.draw1 3 [(0, .qui), (1, .qui), (2, .chn)] [(0, .qui), (1, .qui), (2, .chn), (3, .seq), (4, .seq), (5, .seq)] Try_mixed (by as_aux_lemma => kernel_rfl) (by as_aux_lemma => kernel_rfl) (by as_aux_lemma => kernel_rfl) ?_
       have H := H.draw
       generalize ({ h with drawn := h.drawn + 1 } : World) = D at H ⊢
       refine uV 30 0 (H.cells 0 rfl) ?_
       refine uV 30 0 (H.cells 0 rfl) ?_
       have H : Hp w S [] [_, _, _] [] [Rp (Shape.slice (Shape.int .i64)) [.slice b O.nodes.length d] O.nodes, _] _ := H.freezeW 0 rfl
       refine uK (asks_spec (r := ⟨O, k, n, [], [], 0, limit, 0⟩) (rd_mk (y0 := O) (obj_mk (y0 := O.key) (y1 := O.version) (y2 := O.size) (y3 := O.sum) (y4 := O.group) (y5 := O.epoch) (y6 := O.nodes) ⟨rfl, g⟩ u64a i64a Shape.bv_mk i64a u64a (H.rp 0 rfl)) i64a i64a Shape.slice_nil Shape.slice_nil (Shape.int_mk (by decide)) i64a (Shape.int_mk (by decide))) (by show O.nodes.length ≤ 1000000; omega)) ?_
       rintro _ _ l ⟨y, z, rfl, m⟩
       have H := H.addM l m
       refine uW 30 0 #[.string O.key, .int .u64 O.version, .I O.size, .int .u32 ((O.sum.toNat : Nat) : Int), .I O.group, .int .u64 O.epoch, .slice b O.nodes.length d, .I k, .I n, .slice none 0 0, .slice none 0 0, .I 0, .I limit, .I 0] H 1 rfl ?_
       intro _ H
       refine uF 2 ?_
       refine qRB (.tuple #[.agg #[.string O.key, .int .u64 O.version, .I O.size, .int .u32 ((O.sum.toNat : Nat) : Int), .I O.group, .int .u64 O.epoch, .slice b O.nodes.length d, .I k, .I n, .slice none 0 0, .slice none 0 0, .I 0, .I limit, .I 0], .slice y ((asksR (⟨O, k, n, [], [], 0, limit, 0⟩)).length) z, .I 0]) Tryz.func5 (v3 (.cell 8 30) (.tmp 9) (.tmp 10) (vC (H.cells 1 rfl)) vT vT) ?_
       exact ⟨_, rfl, H.done, [.string O.key, .int .u64 O.version, .I O.size, .int .u32 ((O.sum.toNat : Nat) : Int), .I O.group, .int .u64 O.epoch, .slice b O.nodes.length d, .I k, .I n, .slice none 0 0, .slice none 0 0, .I 0, .I limit, .I 0], _, _, rfl, H.out (rd_mk (y0 := O) (obj_mk (y0 := O.key) (y1 := O.version) (y2 := O.size) (y3 := O.sum) (y4 := O.group) (y5 := O.epoch) (y6 := O.nodes) ⟨rfl, g⟩ u64a i64a Shape.bv_mk i64a u64a (H.rp 1 rfl)) i64a i64a Shape.slice_nil Shape.slice_nil (Shape.int_mk (by decide)) i64a (Shape.int_mk (by decide))), H.out (H.rp 0 rfl)⟩
theorem fbegin_bad {S : Nat → Prop} {w : World} {O : ObjD} {os : List Value} (hO : objS.rep S w os O) (k n limit : Int) (hb : ¬ okB O k n limit) :
 Calls Tryz.prog 5 #[.agg os.toArray, .I k, .I n, .I limit] w (Ret fun v w' => Ext w w' ∧ v = .tuple #[.agg (rdZ).toArray, .slice none 0 0, .I 2]) := by
 obtain ⟨b, d, rfl, _, _, _, _, _, e⟩ := obj_open hO
 unfold okB at hb
 refine uS1 Tryz.func5 ?_
 have H := Hp.startF (.rp e .nil)
 refine uR 1 [.c [0], .c [1]] ?_
 refine qG (sq 0 4) ?_
 refine uC ((objV O b d).toArray) 26 H ?_
 intro _ _ H
 refine uC ((rdZ).toArray) 30 H ?_
 intro a _ H
 refine uF 2 ?_
 refine uR 2 [.c [1, 0, 0], .c [1, 0, 1], .c [2]] ?_
 refine qG (sq 0 9) ?_
 refine uP 1 ?_
 refine uV 3 2 (H.cells 1 rfl) ?_
 refine uP 1 ?_
 refine uK (length_gen (S := fun _ => True) O.size k) ?_
 rintro _ _ f rfl
 have H := H.ext f
 refine uF 5 ?_
 refine uR 1 [.c [1, 0, 1, 0], .c [1, 0, 2], .c [2]] ?_
 refine qG (sq 0 26) ?_
 refine uP 3 ?_
 refine uN 23 (elI O.size k) 0 (fun l => ?_) (fun l => ?_)
 ·
  refine uF 23 ?_
  refine uR 2 [.c [1, 0, 2, 0, 0], .c [1, 0, 2, 0, 1], .c [2]] ?_
  refine qG (sq 0 4) ?_
  refine qP 1 (sq 1 4) [(8, .P a 0), (47, .agg (rdZ).toArray)] ?_
  refine uW 30 0 (rdZ).toArray H 0 rfl ?_
  intro _ H
  refine uF 2 ?_
  refine qRB (.tuple #[.agg (rdZ).toArray, .slice none 0 0, .I 2]) Tryz.func5 (v3 (.cell 8 30) (.tmp 9) (.tmp 10) (vC (H.cells 0 rfl)) vT vT) ?_
  exact ⟨_, rfl, H.done, rfl⟩
 ·
  refine uP 5 ?_
  refine uD 28 ((n : Int) < k) (fun m => ?_) (fun m => ?_)
  ·
   refine uF 18 ?_
   refine uR 2 [.c [1, 0, 2, 0, 0], .c [1, 0, 2, 0, 1], .c [2]] ?_
   refine qG (sq 0 4) ?_
   refine uP 1 ?_
   refine uW 30 0 (rdZ).toArray H 0 rfl ?_
   intro _ H
   refine uF 2 ?_
   refine qRB (.tuple #[.agg (rdZ).toArray, .slice none 0 0, .I 2]) Tryz.func5 (v3 (.cell 8 30) (.tmp 9) (.tmp 10) (vC (H.cells 0 rfl)) vT vT) ?_
   exact ⟨_, rfl, H.done, rfl⟩
  ·
   refine uP 4 ?_
   refine uD 32 ((n : Int) > 255) (fun g => ?_) (fun g => ?_)
   ·
    refine uF 14 ?_
    refine uR 2 [.c [1, 0, 2, 0, 0], .c [1, 0, 2, 0, 1], .c [2]] ?_
    refine qG (sq 0 4) ?_
    refine uP 1 ?_
    refine uW 30 0 (rdZ).toArray H 0 rfl ?_
    intro _ H
    refine qF 2 [(8, .P a 0), (9, .slice none 0 0), (10, .I 2)] ?_
    refine qRB (.tuple #[.agg (rdZ).toArray, .slice none 0 0, .I 2]) Tryz.func5 (v3 (.cell 8 30) (.tmp 9) (.tmp 10) (vC (H.cells 0 rfl)) vT vT) ?_
    exact ⟨_, rfl, H.done, rfl⟩
   ·
    refine uP 1 ?_
    refine uV 24 6 (H.cells 1 rfl) ?_
    refine uP 5 ?_
    refine uN 39 ((O.nodes.length : Nat) : Int) n (fun h => ?_) (fun h => ?_)
    ·
     refine uF 7 ?_
     refine uR 2 [.c [1, 0, 2, 0, 0], .c [1, 0, 2, 0, 1], .c [2]] ?_
     refine qG (sq 0 4) ?_
     refine uP 1 ?_
     refine uW 30 0 (rdZ).toArray H 0 rfl ?_
     intro _ H
     refine uF 2 ?_
     refine qRB (.tuple #[.agg (rdZ).toArray, .slice none 0 0, .I 2]) Tryz.func5 (v3 (.cell 8 30) (.tmp 9) (.tmp 10) (vC (H.cells 0 rfl)) vT vT) ?_
     exact ⟨_, rfl, H.done, rfl⟩
    ·
     refine uP 4 ?_
     refine uD 43 ((limit : Int) < 1) (fun i => ?_) (fun i => ?_)
     ·
      refine uF 3 ?_
      refine uR 2 [.c [1, 0, 2, 0, 0], .c [1, 0, 2, 0, 1], .c [2]] ?_
      refine qG (sq 0 4) ?_
      refine uP 1 ?_
      refine uW 30 0 (rdZ).toArray H 0 rfl ?_
      intro _ H
      refine qF 2 [(8, .P a 0), (9, .slice none 0 0), (10, .I 2)] ?_
      refine qRB (.tuple #[.agg (rdZ).toArray, .slice none 0 0, .I 2]) Tryz.func5 (v3 (.cell 8 30) (.tmp 9) (.tmp 10) (vC (H.cells 0 rfl)) vT vT) ?_
      exact ⟨_, rfl, H.done, rfl⟩
     ·
      refine uF 3 ?_
      refine qD ((limit : Int) > 100000) (fun j => ?_) (fun j => ?_)
      ·
       refine uR 1 [.c [1, 0, 2, 0, 0], .c [1, 0, 2, 0, 1], .c [2]] ?_
       refine qG (sq 0 4) ?_
       refine uP 1 ?_
       refine uW 30 0 (rdZ).toArray H 0 rfl ?_
       intro _ H
       refine uF 2 ?_
       refine qRB (.tuple #[.agg (rdZ).toArray, .slice none 0 0, .I 2]) Tryz.func5 (v3 (.cell 8 30) (.tmp 9) (.tmp 10) (vC (H.cells 0 rfl)) vT vT) ?_
       exact ⟨_, rfl, H.done, rfl⟩
      ·
       exact absurd (by omega) hb
structure RdOf (xs : List (BitVec 8)) (k n : Nat) (r : Rd) : Prop where
 kk : r.kk = (k : Int)
 nn : r.nn = (n : Int)
 size : r.object.size = (xs.length : Int)
 sum : r.object.sum = crcF xs
 nodes : r.object.nodes.length = n
 of : Of xs k n r.pieces
 hk : 1 ≤ k
 hkn : k ≤ n
 hn : n ≤ 255
 hs : xs.length ≤ 65536
def leftTo (bad : List Int) (n : Nat) : Nat := ((List.range n).filter fun j : Nat => decide (¬ (j : Int) ∈ bad)).length
theorem leftTo_yes {bad : List Int} {i : Nat} (h : ¬ (i : Int) ∈ bad) : leftTo bad i + 1 = leftTo bad (i + 1) := by
 unfold leftTo
 rw [List.range_succ, List.filter_append]
 simp [List.filter_cons, h]
theorem leftTo_no {bad : List Int} {i : Nat} (h : (i : Int) ∈ bad) : leftTo bad i = leftTo bad (i + 1) := by
 unfold leftTo
 rw [List.range_succ, List.filter_append]
 simp [List.filter_cons, h]
theorem leftTo_le (bad : List Int) (i : Nat) : leftTo bad i ≤ i := by
 have := List.length_filter_le (fun j : Nat => decide (¬ (j : Int) ∈ bad)) (List.range i)
 rwa [List.length_range] at this
def judgeR (r : Rd) : Int := if r.kk ≤ (r.pieces.length : Int) then 1 else if ((leftTo r.bad r.nn.toNat : Nat) : Int) < r.kk then 2 else 0
theorem bytes_ok {S : Nat → Prop} {w : World} {r : Rd} {cs : List Value} (hr : rdS.rep S w cs r) {xs : List (BitVec 8)} {k n : Nat} (hR : RdOf xs k n r) (hlen : k ≤ r.pieces.length) :
 Calls Tryz.prog 26 #[.agg cs.toArray] w (Ret fun v w' => Ext w w' ∧ ∃ (a : Option Addr) (c : Nat), v = .tuple #[.slice a xs.length c, .I 0] ∧ SB.rep (Nw S w) w' [.slice a xs.length c] xs) := by
 obtain ⟨_, g, h, l, m, rfl, s, _, _, t, u, _, _, _⟩ := rd_open hr
 obtain ⟨b, d, rfl, _, _, _, _, _, e⟩ := obj_open s
 have hsz := hR.hs
 refine uS1 Tryz.func26 ?_
 have H := Hp.startF (.rp e (.rp t (.rp u .nil)))
 refine uR 1 [.c [0], .c [1]] ?_
 refine qG (sq 0 3) ?_
 refine uC ((rdV r b d g h l m).toArray) 30 H ?_
 intro j _ H
 refine uF 2 ?_
 refine uR 1 [.c [1, 0], .c [2]] ?_
 refine qG (sq 0 15) ?_
 refine uP 1 ?_
 refine uV 27 9 (H.cells 0 rfl) ?_
 refine uP 2 ?_
 refine uV 3 2 (H.cells 0 rfl) ?_
 refine uP 1 ?_
 refine uV 3 7 (H.cells 0 rfl) ?_
 refine qP 1 (sq 8 15) [(1, .P j 0), (8, .slice g r.pieces.length h), (11, .I r.object.size), (13, .I r.kk), (14, .P j 8)] ?_
 refine qL .seq 15 (sq 9 15) 3 j 8 8 (.I r.nn) (H.cells 0 rfl) ?_
 rw [hR.size, hR.kk, hR.nn]
 have f : k ≤ (r.pieces).length := by omega
 refine qK .seq (some 16) (sq 10 15) 50 #[.slice g r.pieces.length h, .I ((xs.length : Nat) : Int), .I k, .I n] (decode_ok (S := Av S w [] (idsOf [(j, .cells (rdV r b d g h l m).toArray 30 (0, 0))] [])) (ps := r.pieces) (H.rp 1 rfl) (size := xs.length) (k := k) (n := n) (by omega) hR.hk hR.hkn hR.hn (hR.of.ok hR.hk hR.hkn) f (any_reg f hR.hkn hR.hn (hR.of.ok hR.hk hR.hkn))) ?_
 rintro _ x y ⟨z, A, _, rfl, i, _, o⟩
 rw [objL_of (hR.of.perm i) hR.hk (by rw [i.length_eq]; exact f) hR.hkn hR.hn] at o ⊢
 have H := H.addM y o
 refine uF 5 ?_
 refine uR 2 [.c [2, 0, 0], .c [2, 0, 1], .c [3]] ?_
 refine WK.draw1 10 [(0, .qui), (1, .qui), (2, .qui), (3, .qui), (5, .qui), (6, .qui), (7, .qui), (4, .chn), (8, .qui), (9, .qui)] [(0, .qui), (1, .qui), (2, .qui), (3, .qui), (5, .qui), (6, .qui), (7, .qui), (4, .chn), (8, .qui), (9, .qui)] Try_mixed (by as_aux_lemma => kernel_rfl) (by as_aux_lemma => kernel_rfl) (by as_aux_lemma => kernel_rfl) ?_
 have H := H.draw
 generalize ({ x with drawn := x.drawn + 1 } : World) = B at H ⊢
 refine uP 6 ?_
 refine uV 23 3 (H.cells 0 rfl) ?_
 refine uK (crc_spec (H.rp 0 rfl)) ?_
 rintro _ _ q rfl
 have H := H.ext q
 refine uF 2 ?_
 refine qN (((crcF xs).toNat : Nat) : Int) ((r.object.sum.toNat : Nat) : Int) (fun p => ?_) (fun p => ?_)
 ·
  exact absurd (by rw [hR.sum]) p
 ·
  refine uR 3 [.c [4]] ?_
  refine qT (.tuple #[.slice z xs.length A, .I 0]) Tryz.func26 ?_
  exact ⟨_, rfl, H.done, _, _, rfl, H.out (H.rp 0 rfl)⟩
theorem judge_spec {S : Nat → Prop} {w : World} {r : Rd} {cs : List Value} (hr : rdS.rep S w cs r) {xs : List (BitVec 8)} {k n : Nat} (hR : RdOf xs k n r) :
 Calls Tryz.prog 49 #[.agg cs.toArray] w (Ret fun v w' => Ext w w' ∧ v = .I (judgeR r)) := by
 obtain ⟨_, j, m, o, p, rfl, s, _, _, t, u, _, _, _⟩ := rd_open hr
 obtain ⟨a, d, rfl, _, _, _, _, _, f⟩ := obj_open s
 have hkk := hR.kk
 have hnn := hR.nn
 have C := hR.hn
 refine uS1 Tryz.func49 ?_
 have H := Hp.startF (.rp f (.rp t (.rp u .nil)))
 refine uR 1 [.c [0], .c [1]] ?_
 refine qG (sq 0 2) ?_
 refine uC ((rdV r a d j m o p).toArray) 30 H ?_
 intro h _ H
 refine uF 1 ?_
 refine uR 2 [.c [1, 0, 0], .c [1, 0, 1], .c [2]] ?_
 refine qG (sq 0 6) ?_
 refine uP 1 ?_
 refine uV 27 9 (H.cells 0 rfl) ?_
 refine uP 2 ?_
 refine uV 3 7 (H.cells 0 rfl) ?_
 refine uF 1 ?_
 refine qD ((((r.pieces.length : Nat) : Int) : Int) ≥ r.kk) (fun B => ?_) (fun B => ?_)
 ·
  refine uR 2 [.c [1, 0, 1, 0, 0, 0], .c [1, 0, 1, 0, 0, 1], .c [1, 0, 1, 0, 1], .c [2]] ?_
  refine qG (sq 0 7) ?_
  refine uV 30 0 (H.cells 0 rfl) ?_
  refine uK (bytes_ok (r := r) (rd_mkB (by unfold rdB; omega) (H.rp 0 rfl) (H.rp 1 rfl) (H.rp 2 rfl)) (hR) (by omega)) ?_
  rintro _ _ x ⟨_, _, rfl, y⟩
  have H := H.addM x y
  refine uF 5 ?_
  refine uR 5 [.c [1, 0, 1, 0, 0, 2, 0, 1], .c [1, 0, 1, 0, 1], .c [2]] ?_
  refine qT (.I 1) Tryz.func49 ?_
  refine ⟨_, rfl, H.done, ?_⟩
  congr 1
  symm
  unfold judgeR
  clear H
  rw [if_pos (by omega)]
 ·
  refine uR 5 [.c [3, 0, 0], .c [3, 0, 1], .c [4]] ?_
  refine qG (sq 0 3) ?_
  refine qP 1 (sq 1 3) [(1, .P h 0), (5, .I 0), (20, .P h 8)] ?_
  refine uV 3 8 (H.cells 0 rfl) ?_
  refine uF 1 ?_
  refine qR 1 [.c [3, 0, 1, 0], .b 0, .c [4]] [(1, .P h 0), (5, .I 0), (21, .I r.nn), (22, .I 0)] ?_
  refine WK.loop (α := Nat) (b := cd Tryz.prog 49 [3, 0, 1, 0, 0]) (by as_aux_lemma => kernel_rfl) (fun i => [(1, .P h 0), (5, .I ((leftTo r.bad i : Nat) : Int)), (21, .I r.nn), (22, .I i)]) (fun i w' => Hp w S [] [(h, .cells (rdV r a d j m o p).toArray 30 (0, 0))] [] [Rp (Shape.slice (Shape.int .i64)) [.slice a r.object.nodes.length d] r.object.nodes, Rp (Shape.slice pcS) [.slice j r.pieces.length m] r.pieces, Rp (Shape.slice (Shape.int .i64)) [.slice o r.bad.length p] r.bad] w' ∧ i ≤ n) (fun i => n - i) 0 ⟨H, Nat.zero_le _⟩ (by rfl) ?_
  rintro i _ ⟨H, _⟩ g
  have hll := leftTo_le r.bad i
  refine uR 3 [.c [3, 0, 1, 0, 0, 1, 0], .c [3, 0, 1, 0, 0, 2], .l [3, 0, 1, 0, 0], .b 0, .c [4]] ?_
  refine qD (((i : Int) : Int) < r.nn) (fun z => ?_) (fun z => ?_)
  ·
   refine uR 6 [.c [3, 0, 1, 0, 0, 2, 0, 0, 1, 0], .c [3, 0, 1, 0, 0, 2, 0, 0, 2], .b 1, .c [3, 0, 1, 0, 0, 3], .l [3, 0, 1, 0, 0], .b 0, .c [4]] ?_
   refine qG (sq 0 5) ?_
   refine uP 1 ?_
   refine uV 24 10 (H.cells 0 rfl) ?_
   refine uP 1 ?_
   refine uK (contains_spec (i : Int) (H.rp 2 rfl)) ?_
   rintro _ _ q rfl
   have H := H.ext q
   refine uF 1 ?_
   refine qC (!(decide ((i : Int) ∈ r.bad))) (fun e => ?_) (fun e => ?_)
   ·
    replace e : (decide ((i : Int) ∈ r.bad)) = false := by revert e; cases (decide ((i : Int) ∈ r.bad)) <;> simp
    replace e := of_decide_eq_false e
    refine qG (sq 0 3) ?_
    refine uP 1 ?_
    refine uI (((leftTo r.bad i : Nat) : Int) + 1) ?_
    refine uF 1 ?_
    refine uR 1 [.c [3, 0, 1, 0, 0, 3], .l [3, 0, 1, 0, 0], .b 0, .c [4]] ?_
    refine qG (sq 0 2) ?_
    refine uI ((i : Int) + 1) ?_
    refine qF 1 [(1, .P h 0), (5, .I (((leftTo r.bad i : Nat) : Int) + 1)), (21, .I r.nn), (22, .I ((i : Int) + 1))] ?_
    exact WK.back (g (i + 1) _ ⟨H, by omega⟩ (by first | omega | (simp only []; omega))) (by first | (rw [← leftTo_yes (by assumption)]; rfl) | (rw [← leftTo_no (by assumption)]; rfl))
   ·
    replace e : (decide ((i : Int) ∈ r.bad)) = true := by revert e; cases (decide ((i : Int) ∈ r.bad)) <;> simp
    replace e := of_decide_eq_true e
    refine uR 2 [.c [3, 0, 1, 0, 0, 3], .l [3, 0, 1, 0, 0], .b 0, .c [4]] ?_
    refine qG (sq 0 2) ?_
    refine uI ((i : Int) + 1) ?_
    refine qF 1 [(1, .P h 0), (5, .I ((leftTo r.bad i : Nat) : Int)), (21, .I r.nn), (22, .I ((i : Int) + 1))] ?_
    exact WK.back (g (i + 1) _ ⟨H, by omega⟩ (by first | omega | (simp only []; omega))) (by first | (rw [← leftTo_yes (by assumption)]; rfl) | (rw [← leftTo_no (by assumption)]; rfl))
  ·
   refine uR 3 [.c [4, 0, 0], .c [4, 0, 1], .c [5]] ?_
   refine qG (sq 0 4) ?_
   refine uP 2 ?_
   refine uV 3 7 (H.cells 0 rfl) ?_
   refine uF 1 ?_
   refine qD ((((leftTo r.bad i : Nat) : Int) : Int) < r.kk) (fun A => ?_) (fun A => ?_)
   ·
    refine uR 2 [.c [4, 0, 1, 0, 1], .c [5]] ?_
    refine qT (.I 2) Tryz.func49 ?_
    refine ⟨_, rfl, H.done, ?_⟩
    congr 1
    symm
    unfold judgeR
    clear H
    have hie : i = n := by omega
    have hnt : r.nn.toNat = n := by omega
    rw [hnt, ← hie]
    rw [if_neg (by omega), if_pos (by omega)]
   ·
    refine uR 3 [.c [6]] ?_
    refine qT (.I 0) Tryz.func49 ?_
    refine ⟨_, rfl, H.done, ?_⟩
    congr 1
    symm
    unfold judgeR
    clear H
    have hie : i = n := by omega
    have hnt : r.nn.toNat = n := by omega
    rw [hnt, ← hie]
    rw [if_neg (by omega), if_neg (by omega)]
theorem judgeR_bd (r : Rd) : 0 ≤ judgeR r ∧ judgeR r ≤ 2 := by
 unfold judgeR
 split
 · omega
 · split <;> omega
end Go.Proofs.YtppcdmbkgficiaaGreat
