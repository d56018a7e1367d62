import Derived.Test.YtppcdmbkgficiaaGreatSBxB
import Derived.Test.YtppcdmbkgficiaaGreatSB1
import Derived.Test.YtppcdmbkgficiaaGreatSB2
namespace Go.Proofs.YtppcdmbkgficiaaGreat
open Go.BX
set_option maxHeartbeats 2000000 in
theorem rsame_spec {S : Nat → Prop} {w : World} {r : Rd} {cs : List Value} (hr : rdS.rep S w cs r) {cs2 : List Value} (h2 : rdS.rep S w cs2 r) (hps : r.pieces = []) (hok : ObjOk r.object) :
 Calls Tryz.prog 7 #[.agg cs.toArray, .agg cs2.toArray] w (Ret fun v w' => Ext w w' ∧ v = .bool true) := by
 obtain ⟨_, x, y, z, A, rfl, M, _, _, N, O, _, _, _⟩ := rd_open hr
 obtain ⟨f, h, rfl, k, _, _, _, _, m⟩ := obj_open M
 obtain ⟨_, n, q, s, t, rfl, F, _, _, G, J, _, _, _⟩ := rd_open h2
 obtain ⟨a, e, rfl, i, _, _, _, _, j⟩ := obj_open F
 have hpl : r.pieces.length = 0 := by rw [hps]; rfl
 refine uS1 Tryz.func7 ?_
 have H := Hp.startF (.rp m (.rp N (.rp O (.rp j (.rp G (.rp J .nil))))))
 refine uR 1 [.c [0], .c [1]] ?_
 refine qG (sq 0 3) ?_
 refine uC ((rdV r f h x y z A).toArray) 30 H ?_
 intro B _ H
 refine uC ((rdV r a e n q s t).toArray) 30 H ?_
 intro u _ H
 refine uF 1 ?_
 refine uR 2 [.c [1, 0, 0], .c [1, 0, 1], .c [2]] ?_
 refine qG (sq 0 50) ?_
 refine uP 1 ?_
 refine uV 3 7 (H.cells 1 rfl) ?_
 refine uP 1 ?_
 refine uV 3 7 (H.cells 0 rfl) ?_
 refine uP 2 ?_
 refine uN 11 r.kk r.kk (fun Q => ?_) (fun Q => ?_)
 ·
  exact absurd rfl Q
 ·
  refine uP 1 ?_
  refine uV 3 8 (H.cells 1 rfl) ?_
  refine uP 1 ?_
  refine uV 3 8 (H.cells 0 rfl) ?_
  refine uP 3 ?_
  refine uN 18 r.nn r.nn (fun R => ?_) (fun R => ?_)
  ·
   exact absurd rfl R
  ·
   refine uP 1 ?_
   refine uV 3 11 (H.cells 1 rfl) ?_
   refine qP 1 (sq 16 50) [(2, .P B 0), (3, .P u 0), (18, .bool false), (20, .I r.waited), (21, .P u 11)] ?_
   refine uV 3 11 (H.cells 0 rfl) ?_
   refine uP 3 ?_
   refine uN 25 r.waited r.waited (fun T => ?_) (fun T => ?_)
   ·
    exact absurd rfl T
   ·
    refine uP 1 ?_
    refine uV 3 12 (H.cells 1 rfl) ?_
    refine uP 1 ?_
    refine uV 3 12 (H.cells 0 rfl) ?_
    refine uP 3 ?_
    refine uN 32 r.limit r.limit (fun U => ?_) (fun U => ?_)
    ·
     exact absurd rfl U
    ·
     refine uP 1 ?_
     refine uV 28 13 (H.cells 1 rfl) ?_
     refine uP 1 ?_
     refine uV 28 13 (H.cells 0 rfl) ?_
     refine uP 3 ?_
     refine uN 39 r.done r.done (fun V => ?_) (fun V => ?_)
     ·
      exact absurd rfl V
     ·
      refine uP 1 ?_
      refine uV 24 10 (H.cells 1 rfl) ?_
      refine uP 1 ?_
      refine uV 24 10 (H.cells 0 rfl) ?_
      refine uK (ints_eq (S := fun _ => True) (xs := r.bad) (H.viewF 2 rfl) (H.viewF 5 rfl)) ?_
      rintro _ _ K rfl
      have H := H.ext K
      refine uP 4 ?_
      refine uV 27 9 (H.cells 1 rfl) ?_
      refine qP 2 (sq 46 50) [(2, .P B 0), (3, .P u 0), (47, .bool false), (50, .I ((r.pieces.length : Nat) : Int)), (51, .P u 9)] ?_
      refine uV 27 9 (H.cells 0 rfl) ?_
      refine uF 3 ?_
      refine qN ((r.pieces.length : Nat) : Int) ((r.pieces.length : Nat) : Int) (fun C => ?_) (fun C => ?_)
      ·
       exact absurd rfl C
      ·
       refine uR 5 [.c [2, 0, 1, 0], .b 0, .c [3]] ?_
       refine uL (α := Unit) (g := 7) (p := [2, 0, 1, 0, 0]) (fun _ => [(2, .P B 0), (3, .P u 0), (5, .I 0)]) (fun _ w' => Hp w S [] [(u, .cells (rdV r a e n q s t).toArray 30 (0, 0)), (B, .cells (rdV r f h x y z A).toArray 30 (0, 0))] [] [Rp (Shape.slice (Shape.int .i64)) [.slice f r.object.nodes.length h] r.object.nodes, Rp (Shape.slice pcS) [.slice x r.pieces.length y] r.pieces, Rp (Shape.slice (Shape.int .i64)) [.slice z r.bad.length A] r.bad, Rp (Shape.slice (Shape.int .i64)) [.slice a r.object.nodes.length e] r.object.nodes, Rp (Shape.slice pcS) [.slice n r.pieces.length q] r.pieces, Rp (Shape.slice (Shape.int .i64)) [.slice s r.bad.length t] r.bad] w' ∧ True) (fun _ => 0) (()) ⟨H, trivial⟩ ?_
       rintro _ _ ⟨H, _⟩ _
       refine uR 2 [.c [2, 0, 1, 0, 0, 0, 0], .c [2, 0, 1, 0, 0, 0, 1], .c [2, 0, 1, 0, 0, 1], .l [2, 0, 1, 0, 0], .b 0, .c [3]] ?_
       refine qG (sq 0 5) ?_
       refine uP 2 ?_
       refine uV 27 9 (H.cells 1 rfl) ?_
       refine uF 2 ?_
       refine qD ((0 : Int) < ((r.pieces.length : Nat) : Int)) (fun W => ?_) (fun W => ?_)
       ·
        omega
       ·
        refine uR 2 [.c [3, 0], .c [4]] ?_
        refine qG (sq 0 10) ?_
        refine uP 1 ?_
        refine uV 26 0 (H.cells 1 rfl) ?_
        refine RW.new (κ := .seq) (d := some 94) (r := (sq 3 10)) (o := .cells (objV r.object f h).toArray 26 (0, 0)) (v := fun b => .slice (some ⟨b, 0, none⟩) 1 1) (fun b => by as_aux_lemma => kernel_rfl) (nofun) H ?_
        intro X _ H
        refine uP 2 ?_
        refine uV 26 0 (H.cells 1 rfl) ?_
        refine RW.new (κ := .seq) (d := some 98) (r := (sq 7 10)) (o := .cells (objV r.object a e).toArray 26 (0, 0)) (v := fun b => .slice (some ⟨b, 0, none⟩) 1 1) (fun b => by as_aux_lemma => kernel_rfl) (nofun) H ?_
        intro E _ H
        refine uP 1 ?_
        have H := H.freeze 1 rfl objS ([r.object] : List ObjD) 1 (by simp [maxLen]) (by first | exact Nat.le_refl _ | simp) (EsP.cons (c := [.string r.object.key, .int .u64 r.object.version, .I r.object.size, .int .u32 ((r.object.sum.toNat : Nat) : Int), .I r.object.group, .int .u64 r.object.epoch, .slice f r.object.nodes.length h]) (obj_mk (y0 := r.object.key) (y1 := r.object.version) (y2 := r.object.size) (y3 := r.object.sum) (y4 := r.object.group) (y5 := r.object.epoch) (y6 := r.object.nodes) ⟨rfl, k⟩ u64a i64a Shape.bv_mk i64a u64a (H.rp 0 rfl)) EsP.nil)
        have H : Hp w S [] [(E, .cells (objV r.object a e).toArray 26 (0, 0)), _, _] [] [Rp (Shape.slice objS) [.slice (some ⟨X, 0, none⟩) 1 1] ([r.object] : List ObjD), _, _, _, _, _, _] _ := H
        have H := H.freeze 0 rfl objS ([r.object] : List ObjD) 1 (by simp [maxLen]) (by first | exact Nat.le_refl _ | simp) (EsP.cons (c := [.string r.object.key, .int .u64 r.object.version, .I r.object.size, .int .u32 ((r.object.sum.toNat : Nat) : Int), .I r.object.group, .int .u64 r.object.epoch, .slice a r.object.nodes.length e]) (obj_mk (y0 := r.object.key) (y1 := r.object.version) (y2 := r.object.size) (y3 := r.object.sum) (y4 := r.object.group) (y5 := r.object.epoch) (y6 := r.object.nodes) ⟨rfl, i⟩ u64a i64a Shape.bv_mk i64a u64a (H.rp 4 rfl)) EsP.nil)
        have H : Hp w S [] [_, _] [] [Rp (Shape.slice objS) [.slice (some ⟨E, 0, none⟩) 1 1] ([r.object] : List ObjD), _, _, _, _, _, _, _] _ := H
        refine uK (samemeta_spec (D := r.object) (hok) (H.rp 1 rfl) (H.rp 0 rfl)) ?_
        rintro _ _ L rfl
        have H := H.ext L
        refine uF 1 ?_
        refine qT (.bool true) Tryz.func7 ?_
        exact ⟨_, rfl, H.done, rfl⟩
theorem rows_eq {S : Nat → Prop} {w : World} {ms : List Msg} {a b : Option Addr} {c d : Nat} (hok : ∀ m ∈ ms, MsgOk m) (h : (Shape.slice msgS).rep S w [.slice a ms.length c] ms) (h2 : (Shape.slice msgS).rep S w [.slice b ms.length d] ms) :
 Calls Tryz.prog 8 #[.slice a ms.length c, .slice b ms.length d] w (Ret fun v w' => Ext w w' ∧ v = .bool true) := by
 have hxl := Shape.slice_len h
 refine uS1 Tryz.func8 ?_
 have H := Hp.startF (.rp h (.rp h2 .nil))
 refine uR 5 [.c [1, 0, 1], .c [2]] ?_
 refine qN ((ms.length : Nat) : Int) ((ms.length : Nat) : Int) (fun h1 => ?_) (fun h1 => ?_)
 ·
  exact absurd rfl h1
 ·
  refine uR 5 [.c [2, 0, 1, 0], .b 0, .c [3]] ?_
  refine uL (α := Nat) (g := 8) (p := [2, 0, 1, 0, 0]) (fun i => [(0, .slice a ms.length c), (1, .slice b ms.length d), (5, .I i)]) (fun i w' => Hp w S [] [] [] [Rp (Shape.slice msgS) [.slice a ms.length c] ms, Rp (Shape.slice msgS) [.slice b ms.length d] ms] w' ∧ i ≤ ms.length) (fun i => ms.length - i) 0 ⟨H, Nat.zero_le _⟩ ?_
  rintro i w3 ⟨H, _⟩ e
  refine uR 3 [.c [2, 0, 1, 0, 0, 0, 1], .c [2, 0, 1, 0, 0, 1], .l [2, 0, 1, 0, 0], .b 0, .c [3]] ?_
  refine qD (((i : Int) : Int) < ((ms.length : Nat) : Int)) (fun h4 => ?_) (fun h4 => ?_)
  ·
   obtain ⟨A, f⟩ : ∃ m, ms[i]? = some m := ⟨ms[i], List.getElem?_eq_getElem (by omega)⟩
   refine uR 4 [.c [2, 0, 1, 0, 0, 1, 0, 0, 0], .c [2, 0, 1, 0, 0, 1, 0, 0, 1], .b 1, .c [2, 0, 1, 0, 0, 2], .l [2, 0, 1, 0, 0], .b 0, .c [3]] ?_
   refine WK.draw1 10 [(0, .qui), (1, .qui), (2, .qui), (3, .qui), (4, .qui), (5, .qui), (6, .qui), (7, .qui), (8, .chn), (9, .qui)] [(0, .qui), (1, .qui), (2, .qui), (3, .qui), (4, .qui), (5, .qui), (6, .qui), (7, .qui), (8, .chn), (9, .qui)] Try_mixed (by as_aux_lemma => kernel_rfl) (by as_aux_lemma => kernel_rfl) (by as_aux_lemma => kernel_rfl) ?_
   have H := H.draw
   generalize ({ w3 with drawn := w3.drawn + 1 } : World) = w5 at H ⊢
   refine uP 2 ?_
   have g0 : i < ms.length := by omega
   refine uX 31 (i : Int) H 0 rfl i (by omega) (f) ?_
   intro _ _ _ L H
   obtain ⟨j, k, _, _, n, o, q, r, rfl, _, _, _, _, _, _, _, _, M, N, O, P, _, _, _, _, _, Q⟩ := msg_open L
   obtain ⟨B, C, D, E, rfl, R, T⟩ := conf_open N
   obtain ⟨_, rfl, U, _, _, _⟩ := hdr_open O
   obtain ⟨rfl, _, _, _⟩ := cid_open U
   have H := H.addR M
   have H := H.addR R
   have H := H.addR T
   have H := H.addR P
   have H := H.addR Q
   refine uV 89 0 (H.fc 5 rfl) ?_
   refine uP 2 ?_
   have f0 : i < ms.length := by omega
   refine uX 31 (i : Int) H 7 rfl i (by omega) (f) ?_
   intro _ _ _ V H
   obtain ⟨s, t, _, _, u, x, y, z, rfl, _, _, _, _, _, _, _, _, W, X, Y, Z, _, _, _, _, _, a0⟩ := msg_open V
   obtain ⟨F, G, J, K, rfl, b0, c0⟩ := conf_open X
   obtain ⟨_, rfl, d0, _, _, _⟩ := hdr_open Y
   obtain ⟨rfl, _, _, _⟩ := cid_open d0
   have H := H.addR W
   have H := H.addR b0
   have H := H.addR c0
   have H := H.addR Z
   have H := H.addR a0
   refine uV 89 0 (H.fc 5 rfl) ?_
   refine qK .chn (some 25) [(9, .qui)] 23 #[.agg (msgV A j k B C D E n o q r).toArray, .agg (msgV A s t F G J K u x y z).toArray] (same_spec (S := Av S w [] (idsOf [] [])) (m := A) (hok A (List.mem_of_getElem? f)) (H.rp 9 rfl) (H.rp 8 rfl) (H.rp 7 rfl) (H.rp 3 rfl) (H.rp 2 rfl) (H.rp 1 rfl)) ?_
   rintro _ _ e0 rfl
   have H := H.ext e0
   refine uF 1 ?_
   refine uR 3 [.c [2, 0, 1, 0, 0, 2], .l [2, 0, 1, 0, 0], .b 0, .c [3]] ?_
   refine qG (sq 0 3) ?_
   refine uP 1 ?_
   refine uI ((i : Int) + 1) ?_
   refine uF 1 ?_
   have H := H.pick [12, 13] rfl
   exact uB (e (i + 1) _ ⟨H, by omega⟩ (by first | omega | (simp only []; omega)))
  ·
   refine uR 3 [.c [4]] ?_
   refine qT (.bool true) Tryz.func8 ?_
   exact ⟨_, rfl, H.done, rfl⟩
theorem ask_ok {r : Rd} (hO : ObjOk r.object) (hk : (-9223372036854775808 ≤ r.kk ∧ r.kk ≤ 9223372036854775807)) (hn : (-9223372036854775808 ≤ r.nn ∧ r.nn ≤ 9223372036854775807)) (hl : r.object.nodes.length ≤ 1000000) : ∀ m ∈ asksR r, MsgOk m := by
 intro m hm
 unfold asksR asksTo at hm
 obtain ⟨i, hi, he⟩ := List.mem_filterMap.1 hm
 have a := List.mem_range.1 hi
 obtain ⟨b, c, _, d, _, _, e⟩ := hO
 split at he
 · obtain rfl := Option.some.inj he
   have hto := e (r.object.nodes.getD i 0) (by rw [getD_at' 0 a]; exact List.getElem_mem _)
   refine ⟨rfl, rfl, ?_, ⟨⟨b, ?_, d⟩, hk, hn, c⟩, ?_, ?_, ?_⟩
   · refine ⟨?_, ?_, hto, ?_, ?_, ?_, ?_, ?_, ?_, ?_, ?_, ?_⟩ <;> (dsimp only [askOf]; omega)
   · show -9223372036854775808 ≤ (i : Int) ∧ (i : Int) ≤ 9223372036854775807
     omega
   · exact Nat.zero_le _
   · exact Nat.zero_le _
   · exact Nat.zero_le _
 · cases he
end Go.Proofs.YtppcdmbkgficiaaGreat
