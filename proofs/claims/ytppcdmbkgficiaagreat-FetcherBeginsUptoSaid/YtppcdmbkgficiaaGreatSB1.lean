import Derived.Test.YtppcdmbkgficiaaGreatSF7
import Derived.Test.YtppcdmbkgficiaaGreatSA4
import Derived.Test.YtppcdmbkgficiaaGreatSBxShift
namespace Go.Proofs.YtppcdmbkgficiaaGreat
open Go.BX
theorem r4len_ok {S : Nat → Prop} {w : World} (size k : Nat) (hs : size ≤ 65536) (hk : 1 ≤ k) (hk2 : k ≤ 255) :
 Calls Tryz.prog 18 #[.I size, .I k] w (Ret fun v w' => Ext w w' ∧ v = .tuple #[.I ((lenOf size k : Nat) : Int), .I 0]) := by
 refine qS (fn := Tryz.f18) (n := 26) (σ := [(0, .I size), (1, .I k)]) Tryz.func18 ?_
 have H := Hp.startF (w := w) (S := S) (G := []) .nil
 refine qR 4 [.c [1, 0, 0], .c [1, 0, 1], .c [2]] [(0, .I size), (1, .I k)] ?_
 refine qG (sq 0 14) ?_
 refine qP 3 (sq 3 14) [(0, .I size), (1, .I k), (8, .bool (decide (((size : Int) : Int) < 0)))] ?_
 refine tD (fun b_ => [(0, .I size), (1, .I k), (8, .bool b_)]) (((size : Int) : Int) < 0) (fun h1 => ?_) (fun h1 => ?_)
 ·
  omega
 ·
  refine qP 4 (sq 7 14) [(0, .I size), (1, .I k), (12, .bool (decide (((size : Int) : Int) > 65536)))] ?_
  refine tD (fun b_ => [(0, .I size), (1, .I k), (12, .bool b_)]) (((size : Int) : Int) > 65536) (fun h2 => ?_) (fun h2 => ?_)
  ·
   omega
  ·
   refine qP 4 (sq 11 14) [(0, .I size), (1, .I k), (16, .bool (decide (((k : Int) : Int) < 1)))] ?_
   refine tD (fun b_ => [(0, .I size), (1, .I k), (16, .bool b_)]) (((k : Int) : Int) < 1) (fun h3 => ?_) (fun h3 => ?_)
   ·
    omega
   ·
    refine qF 3 [(0, .I size), (1, .I k), (19, .bool (decide (((k : Int) : Int) > 255)))] ?_
    refine qD (((k : Int) : Int) > 255) (fun h4 => ?_) (fun h4 => ?_)
    ·
     omega
    ·
     refine qR 2 [.c [2, 0], .c [3]] [(0, .I size), (1, .I k)] ?_
     refine qG (sq 0 8) ?_
     refine qP 2 (sq 2 8) [(1, .I k), (20, .I size), (21, .I k)] ?_
     refine qI .seq 22 (sq 3 8) ((size : Int) + (k : Int)) ?_
     refine qI .seq 23 (sq 4 8) (((size : Int) + (k : Int)) - 1) ?_
     refine qP 1 (sq 5 8) [(23, .I (((size : Int) + (k : Int)) - 1)), (24, .I k)] ?_
     refine RW.readS (κ := .seq) (d := some 25) (r := (sq 6 8)) (s := semV (Op.intDiv .quo .i64 (((size : Int) + (k : Int)) - 1) (k : Int))) (v := .I ((lenOf size k : Nat) : Int)) (by as_aux_lemma => kernel_rfl) (fun w' _ => semV_run (quo_nat (r := lenOf size k) (by omega) (by omega) (by rw [show ((size : Int) + (k : Int) - 1) = ((size + k - 1 : Nat) : Int) by omega]; rfl))) ?_
     refine qF 2 [(4, .I ((lenOf size k : Nat) : Int)), (5, .I 0)] ?_
     refine qT (.tuple #[.I ((lenOf size k : Nat) : Int), .I 0]) Tryz.func18 ?_
     exact ⟨_, rfl, H.done, rfl⟩
theorem r4len_bad {S : Nat → Prop} {w : World} (size k : Int) (hb : ¬ okL size k) :
 Calls Tryz.prog 18 #[.I size, .I k] w (Ret fun v w' => Ext w w' ∧ v = .tuple #[.I 0, .I 2]) := by
 unfold okL at hb
 refine qS (fn := Tryz.f18) (n := 26) (σ := [(0, .I size), (1, .I k)]) Tryz.func18 ?_
 have H := Hp.startF (w := w) (S := S) (G := []) .nil
 refine qR 4 [.c [1, 0, 0], .c [1, 0, 1], .c [2]] [(0, .I size), (1, .I k)] ?_
 refine WK.join (fun b_ : Bool => b_ = decide (size < 0 ∨ size > 65536 ∨ k < 1 ∨ k > 255)) (fun b_ => [(0, .I size), (1, .I k), (19, .bool b_)]) [Cq Tryz.prog 18 [1, 0, 1], Cq Tryz.prog 18 [2]] (fun hJ1 => ?_) (fun bj2 hbj3 => ?_)
 ·
  refine qG (sq 0 14) ?_
  refine qP 3 (sq 3 14) [(0, .I size), (1, .I k), (8, .bool (decide ((size : Int) < 0)))] ?_
  refine tD (fun b_ => [(0, .I size), (1, .I k), (8, .bool b_)]) ((size : Int) < 0) (fun h4 => ?_) (fun h4 => ?_)
  ·
   refine qF 11 [(0, .I size), (1, .I k), (19, .bool true)] ?_
   exact hJ1 true ((decide_eq_true (by omega)).symm)
  ·
   refine qP 4 (sq 7 14) [(0, .I size), (1, .I k), (12, .bool (decide ((size : Int) > 65536)))] ?_
   refine tD (fun b_ => [(0, .I size), (1, .I k), (12, .bool b_)]) ((size : Int) > 65536) (fun h5 => ?_) (fun h5 => ?_)
   ·
    refine qF 7 [(0, .I size), (1, .I k), (19, .bool true)] ?_
    exact hJ1 true ((decide_eq_true (by omega)).symm)
   ·
    refine qP 4 (sq 11 14) [(0, .I size), (1, .I k), (16, .bool (decide ((k : Int) < 1)))] ?_
    refine tD (fun b_ => [(0, .I size), (1, .I k), (16, .bool b_)]) ((k : Int) < 1) (fun h6 => ?_) (fun h6 => ?_)
    ·
     refine qF 3 [(0, .I size), (1, .I k), (19, .bool true)] ?_
     exact hJ1 true ((decide_eq_true (by omega)).symm)
    ·
     refine qF 3 [(0, .I size), (1, .I k), (19, .bool (decide ((k : Int) > 255)))] ?_
     exact hJ1 (decide ((k : Int) > 255)) (decide_eq_decide.2 (by constructor <;> intro _ <;> omega))
 ·
  refine qC bj2 (fun h7 => ?_) (fun h7 => ?_)
  ·
   rw [hbj3] at h7
   replace h7 := of_decide_eq_true h7
   refine qR 2 [.c [1, 0, 1, 0, 1], .c [2]] [(4, .I 0), (5, .I 2)] ?_
   refine qT (.tuple #[.I 0, .I 2]) Tryz.func18 ?_
   exact ⟨_, rfl, H.done, rfl⟩
  ·
   rw [hbj3] at h7
   replace h7 := of_decide_eq_false h7
   exact absurd (by omega) hb
theorem r4len_gen {S : Nat → Prop} {w : World} (size k : Int) : Calls Tryz.prog 18 #[.I size, .I k] w (Ret fun v w' => Ext w w' ∧ v = .tuple #[.I (llI size k), .I (elI size k)]) := by
 by_cases h : okL size k
 · have h2 := h
   unfold okL at h2
   obtain ⟨size, rfl⟩ : ∃ m : Nat, size = (m : Int) := ⟨size.toNat, by omega⟩
   obtain ⟨k, rfl⟩ : ∃ m : Nat, k = (m : Int) := ⟨k.toNat, by omega⟩
   unfold llI elI
   rw [if_pos h, if_pos h]
   exact r4len_ok (S := S) size k (by omega) (by omega) (by omega)
 · unfold llI elI
   rw [if_neg h, if_neg h]
   exact r4len_bad (S := S) size k h
theorem rhas_nil {S : Nat → Prop} {w : World} {r : Rd} {cs : List Value} (hr : rdS.rep S w cs r) (hps : r.pieces = []) (i : Int) :
 Calls Tryz.prog 35 #[.agg cs.toArray, .I i] w (Ret fun v w' => Ext w w' ∧ v = .bool false) := by
 obtain ⟨cs0r, a3r, k3r, a4r, k4r, rfl, h0r, h1r, h2r, h3r, h4r, h5r, h6r, h7r⟩ := rd_open hr
 obtain ⟨a6rO, k6rO, rfl, h0rO, h1rO, h2rO, h4rO, h5rO, h6rO⟩ := obj_open h0r
 have hpl : r.pieces.length = 0 := by rw [hps]; rfl
 refine qS (fn := Tryz.f35) (n := 21) (σ := [(0, .agg (rdV r a6rO k6rO a3r k3r a4r k4r).toArray), (1, .I i)]) Tryz.func35 ?_
 have H := Hp.startF (w := w) (S := S) (G := [Rp Li [.slice a6rO r.object.nodes.length k6rO] r.object.nodes, Rp (Shape.slice pcS) [.slice a3r r.pieces.length k3r] r.pieces, Rp Li [.slice a4r r.bad.length k4r] r.bad]) (.rp h6rO (.rp h3r (.rp h4r .nil)))
 refine qR 1 [.c [0], .c [1]] [(0, .agg (rdV r a6rO k6rO a3r k3r a4r k4r).toArray), (1, .I i)] ?_
 refine qG (sq 0 2) ?_
 refine qB .seq 2 (sq 1 2) ((rdV r a6rO k6rO a3r k3r a4r k4r).toArray) 30 H ?_
 intro b1 w2 H
 refine qF 1 [(1, .I i), (2, .P b1 0)] ?_
 refine qR 4 [.c [1, 0, 1, 0], .b 0, .c [2]] [(1, .I i), (2, .P b1 0), (5, .I 0)] ?_
 refine WK.loop (α := Unit) (b := cd Tryz.prog 35 [1, 0, 1, 0, 0]) (by as_aux_lemma => kernel_rfl) (fun _ => [(1, .I i), (2, .P b1 0), (5, .I 0)]) (fun _ w' => Hp w S [] [(b1, .cells (rdV r a6rO k6rO a3r k3r a4r k4r).toArray 30 (0, 0))] [] [Rp Li [.slice a6rO r.object.nodes.length k6rO] r.object.nodes, Rp (Shape.slice pcS) [.slice a3r r.pieces.length k3r] r.pieces, Rp Li [.slice a4r r.bad.length k4r] r.bad] w' ∧ True) (fun _ => 0) (()) ⟨H, trivial⟩ (rfl) ?_
 rintro _ w4 ⟨H, hinv0⟩ hback3
 refine qR 2 [.c [1, 0, 1, 0, 0, 0, 0], .c [1, 0, 1, 0, 0, 0, 1], .c [1, 0, 1, 0, 0, 1], .l [1, 0, 1, 0, 0], .b 0, .c [2]] [(1, .I i), (2, .P b1 0), (5, .I 0)] ?_
 refine qG (sq 0 5) ?_
 refine qP 2 (sq 2 5) [(1, .I i), (2, .P b1 0), (5, .I 0), (6, .I 0), (7, .P b1 9)] ?_
 refine qL .seq 8 (sq 3 5) 27 b1 9 9 (.slice a3r r.pieces.length k3r) (H.cells 0 rfl) ?_
 refine qF 2 [(1, .I i), (2, .P b1 0), (5, .I 0), (10, .bool (decide ((0 : Int) < ((r.pieces.length : Nat) : Int))))] ?_
 refine qD ((0 : Int) < ((r.pieces.length : Nat) : Int)) (fun h5 => ?_) (fun h5 => ?_)
 ·
  omega
 ·
  refine qR 3 [.c [3]] [(4, .bool false)] ?_
  refine qT (.bool false) Tryz.func35 ?_
  exact ⟨_, rfl, H.done, rfl⟩
theorem in0_spec {S : Nat → Prop} {w : World} (x : Int) {xs : List Int} (hx : xs.length = 0) {a : Option Addr} {c : Nat} (h : Li.rep S w [.slice a xs.length c] xs) :
 Calls Tryz.prog 36 #[.I x, .slice a xs.length c] w (Ret fun v w' => Ext w w' ∧ v = .bool false) := by
 refine qS (fn := Tryz.f36) (n := 18) (σ := [(0, .I x), (1, .slice a xs.length c)]) Tryz.func36 ?_
 have H := Hp.startF (w := w) (S := S) (G := [Rp Li [.slice a xs.length c] xs]) (.rp h .nil)
 refine qR 6 [.c [1, 0, 1, 0], .b 0, .c [2]] [(0, .I x), (1, .slice a xs.length c), (5, .I 0)] ?_
 refine WK.loop (α := Unit) (b := cd Tryz.prog 36 [1, 0, 1, 0, 0]) (by as_aux_lemma => kernel_rfl) (fun _ => [(0, .I x), (1, .slice a xs.length c), (5, .I 0)]) (fun _ w' => Hp w S [] [] [] [Rp Li [.slice a xs.length c] xs] w' ∧ True) (fun _ => 0) (()) ⟨H, trivial⟩ (rfl) ?_
 rintro _ w2 ⟨H, hinv0⟩ hback1
 refine qR 3 [.c [1, 0, 1, 0, 0, 0, 1], .c [1, 0, 1, 0, 0, 1], .l [1, 0, 1, 0, 0], .b 0, .c [2]] [(0, .I x), (1, .slice a xs.length c), (5, .I 0), (9, .bool (decide ((0 : Int) < ((xs.length : Nat) : Int))))] ?_
 refine qD ((0 : Int) < ((xs.length : Nat) : Int)) (fun h3 => ?_) (fun h3 => ?_)
 ·
  omega
 ·
  refine qR 3 [.c [3]] [(4, .bool false)] ?_
  refine qT (.bool false) Tryz.func36 ?_
  exact ⟨_, rfl, H.done, rfl⟩
theorem rhead_spec {S : Nat → Prop} {w : World} {r : Rd} {cs : List Value} (hr : rdS.rep S w cs r) (i : Int) :
 Calls Tryz.prog 37 #[.agg cs.toArray, .I i] w (Ret fun v w' => Ext w w' ∧ v = .agg #[.int .u64 r.object.version, .I i, .int .u64 r.object.epoch, .I r.kk, .I r.nn, .I r.object.size, .int .u32 0]) := by
 obtain ⟨cs0r, a3r, k3r, a4r, k4r, rfl, h0r, h1r, h2r, h3r, h4r, h5r, h6r, h7r⟩ := rd_open hr
 obtain ⟨a6rO, k6rO, rfl, h0rO, h1rO, h2rO, h4rO, h5rO, h6rO⟩ := obj_open h0r
 refine qS (fn := Tryz.f37) (n := 21) (σ := [(0, .agg (rdV r a6rO k6rO a3r k3r a4r k4r).toArray), (1, .I i)]) Tryz.func37 ?_
 have H := Hp.startF (w := w) (S := S) (G := [Rp Li [.slice a6rO r.object.nodes.length k6rO] r.object.nodes, Rp (Shape.slice pcS) [.slice a3r r.pieces.length k3r] r.pieces, Rp Li [.slice a4r r.bad.length k4r] r.bad]) (.rp h6rO (.rp h3r (.rp h4r .nil)))
 refine qR 1 [.c [0], .c [1]] [(0, .agg (rdV r a6rO k6rO a3r k3r a4r k4r).toArray), (1, .I i)] ?_
 refine qG (sq 0 2) ?_
 refine qB .seq 2 (sq 1 2) ((rdV r a6rO k6rO a3r k3r a4r k4r).toArray) 30 H ?_
 intro b1 w2 H
 refine qB .seq 4 (sq 2 2) #[.int .u64 0, .I 0, .int .u64 0, .I 0, .I 0, .I 0, .int .u32 0] 84 H ?_
 intro b3 w4 H
 refine qF 0 [(1, .I i), (2, .P b1 0), (4, .P b3 0)] ?_
 refine qR 1 [.c [1, 0], .c [2]] [(1, .I i), (2, .P b1 0), (4, .P b3 0)] ?_
 refine qG (sq 0 17) ?_
 refine qP 2 (sq 2 17) [(1, .I i), (2, .P b1 0), (4, .P b3 0), (6, .P b1 1)] ?_
 refine qL .seq 7 (sq 3 17) 22 b1 1 1 (.int .u64 r.object.version) (H.cells 1 rfl) ?_
 refine qP 3 (sq 6 17) [(2, .P b1 0), (4, .P b3 0), (7, .int .u64 r.object.version), (8, .I i), (10, .P b1 5)] ?_
 refine qL .seq 11 (sq 7 17) 22 b1 5 5 (.int .u64 r.object.epoch) (H.cells 1 rfl) ?_
 refine qP 2 (sq 9 17) [(2, .P b1 0), (4, .P b3 0), (12, .agg #[.int .u64 r.object.version, .I i, .int .u64 r.object.epoch]), (13, .P b1 7)] ?_
 refine qL .seq 14 (sq 10 17) 3 b1 7 7 (.I r.kk) (H.cells 1 rfl) ?_
 refine qP 1 (sq 11 17) [(2, .P b1 0), (4, .P b3 0), (12, .agg #[.int .u64 r.object.version, .I i, .int .u64 r.object.epoch]), (14, .I r.kk), (15, .P b1 8)] ?_
 refine qL .seq 16 (sq 12 17) 3 b1 8 8 (.I r.nn) (H.cells 1 rfl) ?_
 refine qP 2 (sq 14 17) [(4, .P b3 0), (12, .agg #[.int .u64 r.object.version, .I i, .int .u64 r.object.epoch]), (14, .I r.kk), (16, .I r.nn), (18, .P b1 2)] ?_
 refine qL .seq 19 (sq 15 17) 3 b1 2 2 (.I r.object.size) (H.cells 1 rfl) ?_
 refine qP 1 (sq 16 17) [(4, .P b3 0), (20, .agg #[.int .u64 r.object.version, .I i, .int .u64 r.object.epoch, .I r.kk, .I r.nn, .I r.object.size, .int .u32 0])] ?_
 refine qW 84 b3 0 (sq 17 17) (.agg #[.int .u64 r.object.version, .I i, .int .u64 r.object.epoch, .I r.kk, .I r.nn, .I r.object.size, .int .u32 0]) [(b3, .cells #[.int .u64 r.object.version, .I i, .int .u64 r.object.epoch, .I r.kk, .I r.nn, .I r.object.size, .int .u32 0] 84 (0, 0)), (b1, .cells (rdV r a6rO k6rO a3r k3r a4r k4r).toArray 30 (0, 0))] H 0 rfl rfl ?_
 intro w5 H
 refine qF 0 [(4, .P b3 0)] ?_
 refine qRB (.agg #[.int .u64 r.object.version, .I i, .int .u64 r.object.epoch, .I r.kk, .I r.nn, .I r.object.size, .int .u32 0]) Tryz.func37 (v1 (.cell 4 84) (vC (H.cells 0 rfl))) ?_
 exact ⟨_, rfl, H.done, rfl⟩
set_option maxHeartbeats 4000000 in
theorem rmsgs_spec {S : Nat → Prop} {w : World} {r : Rd} {cs : List Value} (hr : rdS.rep S w cs r) (hn : r.object.nodes.length ≤ 1000000) (hps : r.pieces = []) (hbd : r.bad = []) :
 Calls Tryz.prog 19 #[.agg cs.toArray] w (Ret fun v w' => Ext w w' ∧ ∃ (a : Option Addr) (c : Nat), v = .slice a (asksR r).length c ∧ (Shape.slice msgS).rep (Nw S w) w' [.slice a (asksR r).length c] (asksR r)) := by
 obtain ⟨cs0r, a3r, k3r, a4r, k4r, rfl, h0r, h1r, h2r, h3r, h4r, h5r, h6r, h7r⟩ := rd_open hr
 obtain ⟨a6rO, k6rO, rfl, h0rO, h1rO, h2rO, h4rO, h5rO, h6rO⟩ := obj_open h0r
 refine qS (fn := Tryz.f19) (n := 38) (σ := [(0, .agg (rdV r a6rO k6rO a3r k3r a4r k4r).toArray)]) Tryz.func19 ?_
 have H := Hp.startF (w := w) (S := S) (G := [Rp Li [.slice a6rO r.object.nodes.length k6rO] r.object.nodes, Rp (Shape.slice pcS) [.slice a3r r.pieces.length k3r] r.pieces, Rp Li [.slice a4r r.bad.length k4r] r.bad]) (.rp h6rO (.rp h3r (.rp h4r .nil)))
 refine qR 1 [.c [0], .c [1]] [(0, .agg (rdV r a6rO k6rO a3r k3r a4r k4r).toArray)] ?_
 refine qG (sq 0 2) ?_
 refine qB .seq 1 (sq 1 2) ((rdV r a6rO k6rO a3r k3r a4r k4r).toArray) 30 H ?_
 intro b1 w2 H
 refine qF 1 [(1, .P b1 0)] ?_
 refine qR 6 [.c [2, 0, 1, 0], .b 0, .c [3]] [(1, .P b1 0), (3, .slice none 0 0), (4, .I 0)] ?_
 have H := H.ownNil msgS 89
 refine WK.loop (α := Nat × Option Addr × Nat) (b := cd Tryz.prog 19 [2, 0, 1, 0, 0]) (by as_aux_lemma => kernel_rfl) (fun st_ => match st_ with | (i, ao, co) => [(1, .P b1 0), (3, .slice ao (asksTo r i).length co), (4, .I i)]) (fun st_ w' => match st_ with | (i, ao, co) => Hp w S [] [(b1, .cells (rdV r a6rO k6rO a3r k3r a4r k4r).toArray 30 (0, 0))] [⟨msgS, 89, .slice ao (asksTo r i).length co, asksTo r i⟩] [Rp Li [.slice a6rO r.object.nodes.length k6rO] r.object.nodes, Rp (Shape.slice pcS) [.slice a3r r.pieces.length k3r] r.pieces, Rp Li [.slice a4r r.bad.length k4r] r.bad] w' ∧ i ≤ r.object.nodes.length) (fun st_ => match st_ with | (i, ao, co) => r.object.nodes.length - i) (0, none, 0) ⟨H, Nat.zero_le _⟩ (rfl) ?_
 rintro ⟨i, ao, co⟩ w4 ⟨H, hinv0⟩ hback3
 have hml := asksTo_le r i
 refine qR 2 [.c [2, 0, 1, 0, 0, 0, 0], .c [2, 0, 1, 0, 0, 0, 1], .c [2, 0, 1, 0, 0, 1], .l [2, 0, 1, 0, 0], .b 0, .c [3]] [(1, .P b1 0), (3, .slice ao (asksTo r i).length co), (4, .I i)] ?_
 refine qG (sq 0 6) ?_
 refine qP 3 (sq 3 6) [(1, .P b1 0), (3, .slice ao (asksTo r i).length co), (4, .I i), (5, .I i), (7, .P b1 6)] ?_
 refine qL .seq 8 (sq 4 6) 24 b1 6 6 (.slice a6rO r.object.nodes.length k6rO) (H.cells 0 rfl) ?_
 refine qF 2 [(1, .P b1 0), (3, .slice ao (asksTo r i).length co), (4, .I i), (10, .bool (decide (((i : Int) : Int) < ((r.object.nodes.length : Nat) : Int))))] ?_
 refine qD (((i : Int) : Int) < ((r.object.nodes.length : Nat) : Int)) (fun h5 => ?_) (fun h5 => ?_)
 ·
  refine qR 4 [.c [2, 0, 1, 0, 0, 1, 0, 0, 0], .c [2, 0, 1, 0, 0, 1, 0, 0, 1], .b 1, .c [2, 0, 1, 0, 0, 2], .l [2, 0, 1, 0, 0], .b 0, .c [3]] [(1, .P b1 0), (3, .slice ao (asksTo r i).length co), (4, .I i)] ?_
  refine qG (sq 0 11) ?_
  refine qL .seq 13 (sq 1 11) 30 b1 0 0 (.agg (rdV r a6rO k6rO a3r k3r a4r k4r).toArray) (H.cells 0 rfl) ?_
  refine qP 1 (sq 2 11) [(1, .P b1 0), (3, .slice ao (asksTo r i).length co), (4, .I i), (13, .agg (rdV r a6rO k6rO a3r k3r a4r k4r).toArray), (14, .I i)] ?_
  refine qK .seq (some 15) (sq 3 11) 35 #[.agg (rdV r a6rO k6rO a3r k3r a4r k4r).toArray, .I i] (rhas_nil (r := r) (rd_mkB (by unfold rdB; omega) (H.rp 0 rfl) (H.rp 1 rfl) (H.rp 2 rfl)) (hps) (i : Int)) ?_
  rintro _ w6 hE7 rfl
  have H := H.ext hE7
  refine qP 4 (sq 7 11) [(1, .P b1 0), (3, .slice ao (asksTo r i).length co), (4, .I i), (17, .bool true), (18, .I i), (19, .P b1 10)] ?_
  refine qL .seq 20 (sq 8 11) 24 b1 10 10 (.slice a4r r.bad.length k4r) (H.cells 0 rfl) ?_
  refine qK .seq (some 21) (sq 9 11) 36 #[.I i, .slice a4r r.bad.length k4r] (in0_spec (S := fun _ => True) (i : Int) (xs := r.bad) (by rw [hbd]; rfl) (H.viewF 2 rfl)) ?_
  rintro _ w8 hE9 rfl
  have H := H.ext hE9
  refine qF 2 [(1, .P b1 0), (3, .slice ao (asksTo r i).length co), (4, .I i), (23, .bool true)] ?_
  refine qR 1 [.c [2, 0, 1, 0, 0, 1, 0, 0, 1, 0], .b 1, .c [2, 0, 1, 0, 0, 2], .l [2, 0, 1, 0, 0], .b 0, .c [3]] [(1, .P b1 0), (3, .slice ao (asksTo r i).length co), (4, .I i)] ?_
  refine WK.draw1 12 [(0, .qui), (1, .qui), (2, .qui), (3, .qui), (4, .qui), (5, .qui), (6, .qui), (7, .qui), (8, .qui), (9, .chn), (10, .qui), (11, .chn)] [(0, .qui), (1, .qui), (2, .qui), (3, .qui), (4, .qui), (5, .qui), (6, .qui), (7, .qui), (8, .qui), (9, .chn), (10, .qui), (11, .chn), (12, .seq), (13, .seq)] Try_mixed (by as_aux_lemma => kernel_rfl) (by as_aux_lemma => kernel_rfl) (by as_aux_lemma => kernel_rfl) ?_
  have H := H.draw
  generalize ({ w8 with drawn := w8.drawn + 1 } : World) = w10 at H ⊢
  refine qP 3 [(3, .qui), (4, .qui), (5, .qui), (6, .qui), (7, .qui), (8, .qui), (9, .chn), (10, .qui), (11, .chn), (12, .seq), (13, .seq)] [(1, .P b1 0), (3, .slice ao (asksTo r i).length co), (4, .I i), (24, .slice ao (asksTo r i).length co), (26, .P b1 6)] ?_
  refine qL .qui 27 [(4, .qui), (5, .qui), (6, .qui), (7, .qui), (8, .qui), (9, .chn), (10, .qui), (11, .chn), (12, .seq), (13, .seq)] 24 b1 6 6 (.slice a6rO r.object.nodes.length k6rO) (H.cells 0 rfl) ?_
  refine qP 1 [(5, .qui), (6, .qui), (7, .qui), (8, .qui), (9, .chn), (10, .qui), (11, .chn), (12, .seq), (13, .seq)] [(1, .P b1 0), (3, .slice ao (asksTo r i).length co), (4, .I i), (24, .slice ao (asksTo r i).length co), (27, .slice a6rO r.object.nodes.length k6rO), (28, .I i)] ?_
  have hx11 : i < r.object.nodes.length := by omega
  refine qX .qui 29 [(6, .qui), (7, .qui), (8, .qui), (9, .chn), (10, .qui), (11, .chn), (12, .seq), (13, .seq)] 24 3 (i : Int) Si (r.object.nodes[i]) H 0 rfl i (by omega) (List.getElem?_eq_getElem hx11) ?_
  intro b12 o13 es14 hr15 H
  have hb16 := Shape.i64_bd hr15
  obtain ⟨rfl, -⟩ := hr15
  refine qL .qui 30 [(7, .qui), (8, .qui), (9, .chn), (10, .qui), (11, .chn), (12, .seq), (13, .seq)] 3 b12 o13 0 (.I (r.object.nodes[i])) (H.fc 0 rfl) ?_
  refine qL .qui 31 [(8, .qui), (9, .chn), (10, .qui), (11, .chn), (12, .seq), (13, .seq)] 30 b1 0 0 (.agg (rdV r a6rO k6rO a3r k3r a4r k4r).toArray) (H.cells 0 rfl) ?_
  refine qP 1 [(9, .chn), (10, .qui), (11, .chn), (12, .seq), (13, .seq)] [(1, .P b1 0), (3, .slice ao (asksTo r i).length co), (4, .I i), (24, .slice ao (asksTo r i).length co), (30, .I (r.object.nodes[i])), (31, .agg (rdV r a6rO k6rO a3r k3r a4r k4r).toArray), (32, .I i)] ?_
  refine qK .chn (some 33) [(10, .qui), (11, .chn), (12, .seq), (13, .seq)] 37 #[.agg (rdV r a6rO k6rO a3r k3r a4r k4r).toArray, .I i] (rhead_spec (r := r) (rd_mkB (by unfold rdB; omega) (H.rp 1 rfl) (H.rp 2 rfl) (H.rp 3 rfl)) (i : Int)) ?_
  rintro _ w17 hE18 rfl
  have H := H.ext hE18
  refine qP 1 [(11, .chn), (12, .seq), (13, .seq)] [(1, .P b1 0), (3, .slice ao (asksTo r i).length co), (4, .I i), (24, .slice ao (asksTo r i).length co), (34, .agg #[.I 14, .I 0, .I (r.object.nodes[i]), .int .u64 0, .int .u64 0, .int .u64 0, .int .u64 0, .int .u64 0, .bool false, .bool false, .slice none 0 0, .slice none 0 0, .slice none 0 0, .int .u64 r.object.version, .I i, .int .u64 r.object.epoch, .I r.kk, .I r.nn, .I r.object.size, .int .u32 0, .slice none 0 0, .int .u64 0, .int .u64 0, .I 0, .string (⟨#[]⟩), .I 0, .slice none 0 0])] ?_
  refine RW.new (κ := .chn) (d := some 35) (r := [(12, .seq), (13, .seq)]) (o := .cells #[.I 14, .I 0, .I (r.object.nodes[i]), .int .u64 0, .int .u64 0, .int .u64 0, .int .u64 0, .int .u64 0, .bool false, .bool false, .slice none 0 0, .slice none 0 0, .slice none 0 0, .int .u64 r.object.version, .I i, .int .u64 r.object.epoch, .I r.kk, .I r.nn, .I r.object.size, .int .u32 0, .slice none 0 0, .int .u64 0, .int .u64 0, .I 0, .string (⟨#[]⟩), .I 0, .slice none 0 0] 89 (0, 0)) (v := fun b => .slice (some ⟨b, 0, none⟩) 1 1) (fun b => by as_aux_lemma => kernel_rfl) (nofun) H ?_
  intro b19 w20 H
  have H := H.freeze 0 rfl msgS ([⟨14, 0, r.object.nodes[i], 0, 0, 0, 0, 0, false, false, [], ⟨[], []⟩, ⟨⟨r.object.version, (i : Int), r.object.epoch⟩, r.kk, r.nn, r.object.size, 0#32⟩, [], 0, 0, 0, ⟨#[]⟩, 0, []⟩] : List Msg) 1 (by simp [maxLen]) (by first | exact Nat.le_refl _ | simp) (EsP.cons (c := [.I 14, .I 0, .I (r.object.nodes[i]), .int .u64 0, .int .u64 0, .int .u64 0, .int .u64 0, .int .u64 0, .bool false, .bool false, .slice none 0 0, .slice none 0 0, .slice none 0 0, .int .u64 r.object.version, .I i, .int .u64 r.object.epoch, .I r.kk, .I r.nn, .I r.object.size, .int .u32 0, .slice none 0 0, .int .u64 0, .int .u64 0, .I 0, .string (⟨#[]⟩), .I 0, .slice none 0 0]) (msg_mk (l0 := [.I 14]) (y0 := 14) (l1 := [.I 0]) (y1 := 0) (l2 := [.I (r.object.nodes[i])]) (y2 := r.object.nodes[i]) (l3 := [.int .u64 0]) (y3 := 0) (l4 := [.int .u64 0]) (y4 := 0) (l5 := [.int .u64 0]) (y5 := 0) (l6 := [.int .u64 0]) (y6 := 0) (l7 := [.int .u64 0]) (y7 := 0) (l8 := [.bool false]) (y8 := false) (l9 := [.bool false]) (y9 := false) (l10 := [.slice none 0 0]) (y10 := []) (l11 := [.slice none 0 0, .slice none 0 0]) (y11 := ⟨[], []⟩) (l12 := [.int .u64 r.object.version, .I i, .int .u64 r.object.epoch, .I r.kk, .I r.nn, .I r.object.size, .int .u32 0]) (y12 := ⟨⟨r.object.version, (i : Int), r.object.epoch⟩, r.kk, r.nn, r.object.size, 0#32⟩) (l13 := [.slice none 0 0]) (y13 := []) (l14 := [.int .u64 0]) (y14 := 0) (l15 := [.int .u64 0]) (y15 := 0) (l16 := [.I 0]) (y16 := 0) (l17 := [.string (⟨#[]⟩)]) (y17 := ⟨#[]⟩) (l18 := [.I 0]) (y18 := 0) (l19 := [.slice none 0 0]) (y19 := []) (Shape.int_mk (by decide)) (Shape.int_mk (by decide)) i64a (Shape.int_mk (by decide)) (Shape.int_mk (by decide)) (Shape.int_mk (by decide)) (Shape.int_mk (by decide)) (Shape.int_mk (by decide)) Shape.bool_mk Shape.bool_mk Shape.slice_nil (conf_mk Shape.slice_nil Shape.slice_nil) (hdr_mk (cid_mk u64a i64a u64a) i64a i64a i64a (Shape.bv_lit (x := 0#32) (by decide))) Shape.slice_nil (Shape.int_mk (by decide)) (Shape.int_mk (by decide)) (Shape.int_mk (by decide)) ⟨rfl, by first | assumption | (simp [maxLen]; done) | decide⟩ (Shape.int_mk (by decide)) Shape.slice_nil) EsP.nil)
  have H : Hp w S [] [(b1, .cells (rdV r a6rO k6rO a3r k3r a4r k4r).toArray 30 (0, 0))] [⟨msgS, 89, .slice ao (asksTo r i).length co, asksTo r i⟩] [Rp (Shape.slice msgS) [.slice (some ⟨b19, 0, none⟩) 1 1] ([⟨14, 0, r.object.nodes[i], 0, 0, 0, 0, 0, false, false, [], ⟨[], []⟩, ⟨⟨r.object.version, (i : Int), r.object.epoch⟩, r.kk, r.nn, r.object.size, 0#32⟩, [], 0, 0, 0, ⟨#[]⟩, 0, []⟩] : List Msg), Fc b12 o13 [.I (r.object.nodes[i])], Rp Li [.slice a6rO r.object.nodes.length k6rO] r.object.nodes, Rp (Shape.slice pcS) [.slice a3r r.pieces.length k3r] r.pieces, Rp Li [.slice a4r r.bad.length k4r] r.bad] _ := H
  refine RW.appendW (d := some 36) (r := [(13, .seq)]) (T := 31) (ty := 31) (e := 89) (m := 27) (by_ := 296) (v := .slice ao (asksTo r i).length co) (a2 := (some ⟨b19, 0, none⟩)) (l2 := 1) (c2 := 1) (zs := asksTo r (i + 1)) (by as_aux_lemma => kernel_rfl) (by as_aux_lemma => kernel_rfl) rfl H 0 rfl 0 rfl (by rw [← asksTo_yes (by unfold openR; rw [hps, hbd]; simp)]; unfold askOf headR; rw [getD_at' _ (by omega)]) (by have := asksTo_le r (i + 1); omega) ?_
  intro a21 c22 w24 H hc23
  have H : Hp w S [] [(b1, .cells (rdV r a6rO k6rO a3r k3r a4r k4r).toArray 30 (0, 0))] [⟨msgS, 89, .slice a21 ((asksTo r (i + 1)).length) c22, asksTo r (i + 1)⟩] [Rp (Shape.slice msgS) [.slice (some ⟨b19, 0, none⟩) 1 1] ([⟨14, 0, r.object.nodes[i], 0, 0, 0, 0, 0, false, false, [], ⟨[], []⟩, ⟨⟨r.object.version, (i : Int), r.object.epoch⟩, r.kk, r.nn, r.object.size, 0#32⟩, [], 0, 0, 0, ⟨#[]⟩, 0, []⟩] : List Msg), Fc b12 o13 [.I (r.object.nodes[i])], Rp Li [.slice a6rO r.object.nodes.length k6rO] r.object.nodes, Rp (Shape.slice pcS) [.slice a3r r.pieces.length k3r] r.pieces, Rp Li [.slice a4r r.bad.length k4r] r.bad] _ := H
  refine qF 1 [(1, .P b1 0), (3, .slice a21 ((asksTo r (i + 1)).length) c22), (4, .I i)] ?_
  refine qR 1 [.c [2, 0, 1, 0, 0, 2], .l [2, 0, 1, 0, 0], .b 0, .c [3]] [(1, .P b1 0), (3, .slice a21 ((asksTo r (i + 1)).length) c22), (4, .I i)] ?_
  refine qG (sq 0 3) ?_
  refine qP 1 (sq 1 3) [(1, .P b1 0), (3, .slice a21 ((asksTo r (i + 1)).length) c22), (4, .I i), (11, .I i)] ?_
  refine qI .seq 12 (sq 2 3) ((i : Int) + 1) ?_
  refine qF 1 [(1, .P b1 0), (3, .slice a21 ((asksTo r (i + 1)).length) c22), (4, .I ((i : Int) + 1))] ?_
  have H := H.pick [2, 3, 4] rfl
  exact WK.back (hback3 (i + 1, a21, c22) _ ⟨H, by omega⟩ (by first | omega | (simp only []; omega))) (by as_aux_lemma => kernel_rfl)
 ·
  refine qR 3 [.c [4]] [(2, .slice ao (asksTo r i).length co)] ?_
  refine qT (.slice ao (asksTo r i).length co) Tryz.func19 ?_
  have H : Hp w S [] [(b1, .cells (rdV r a6rO k6rO a3r k3r a4r k4r).toArray 30 (0, 0))] [] [Rp (Shape.slice msgS) [.slice ao (asksTo r i).length co] (asksTo r i), Rp Li [.slice a6rO r.object.nodes.length k6rO] r.object.nodes, Rp (Shape.slice pcS) [.slice a3r r.pieces.length k3r] r.pieces, Rp Li [.slice a4r r.bad.length k4r] r.bad] _ := H.freezeW 0 rfl
  have hi9 : i = r.object.nodes.length := by omega
  subst hi9
  exact ⟨_, rfl, H.done, _, _, rfl, H.out (H.rp 0 rfl)⟩
set_option maxHeartbeats 2000000 in
theorem rbegin_ok {S : Nat → Prop} {w : World} {O : ObjD} {os : List Value} (hO : objS.rep S w os O) (k n limit : Int) (hb : okB O k n limit) :
 Calls Tryz.prog 6 #[.agg os.toArray, .I k, .I n, .I limit] w (Ret fun v w' => Ext w w' ∧ ∃ (ds : List Value) (a : Option Addr) (c : Nat), v = .tuple #[.agg ds.toArray, .slice a (asksR (beginR O k n limit)).length c, .I 0] ∧ rdS.rep (Nw S w) w' ds (beginR O k n limit) ∧ (Shape.slice msgS).rep (Nw S w) w' [.slice a (asksR (beginR O k n limit)).length c] (asksR (beginR O k n limit))) := by
 obtain ⟨a6O, k6O, rfl, h0O, h1O, h2O, h4O, h5O, h6O⟩ := obj_open hO
 obtain ⟨hb1, hb2, hb3, hb4, hb5, hb6⟩ := hb
 have hbl := el_ok.1 hb1
 unfold okL at hbl
 refine qS (fn := Tryz.f6) (n := 61) (σ := [(0, .agg (objV O a6O k6O).toArray), (1, .I k), (2, .I n), (3, .I limit)]) Tryz.func6 ?_
 have H := Hp.startF (w := w) (S := S) (G := [Rp Li [.slice a6O O.nodes.length k6O] O.nodes]) (.rp h6O .nil)
 refine qR 1 [.c [0], .c [1]] [(0, .agg (objV O a6O k6O).toArray), (1, .I k), (2, .I n), (3, .I limit)] ?_
 refine qG (sq 0 4) ?_
 refine qB .seq 4 (sq 1 4) ((objV O a6O k6O).toArray) 26 H ?_
 intro b1 w2 H
 refine qB .seq 8 (sq 2 4) ((rdZ).toArray) 30 H ?_
 intro b3 w4 H
 refine qF 2 [(1, .I k), (2, .I n), (3, .I limit), (4, .P b1 0), (8, .P b3 0)] ?_
 refine qR 1 [.c [1, 0], .c [2]] [(1, .I k), (2, .I n), (3, .I limit), (4, .P b1 0), (8, .P b3 0)] ?_
 refine qG (sq 0 9) ?_
 refine qP 1 (sq 1 9) [(1, .I k), (2, .I n), (3, .I limit), (4, .P b1 0), (8, .P b3 0), (15, .P b1 2)] ?_
 refine qL .seq 16 (sq 2 9) 3 b1 2 2 (.I O.size) (H.cells 1 rfl) ?_
 refine qP 1 (sq 3 9) [(1, .I k), (2, .I n), (3, .I limit), (4, .P b1 0), (8, .P b3 0), (16, .I O.size), (17, .I k)] ?_
 refine qK .seq (some 18) (sq 4 9) 18 #[.I O.size, .I k] (r4len_gen (S := fun _ => True) O.size k) ?_
 rintro _ w5 hE6 rfl
 have H := H.ext hE6
 refine qF 5 [(1, .I k), (2, .I n), (3, .I limit), (4, .P b1 0), (8, .P b3 0), (12, .I (elI O.size k))] ?_
 refine qR 2 [.c [2, 0, 0], .c [2, 0, 1], .c [3]] [(1, .I k), (2, .I n), (3, .I limit), (4, .P b1 0), (8, .P b3 0), (12, .I (elI O.size k))] ?_
 refine qG (sq 0 26) ?_
 refine qP 3 (sq 3 26) [(1, .I k), (2, .I n), (3, .I limit), (4, .P b1 0), (8, .P b3 0), (23, .bool ((elI O.size k) != 0))] ?_
 refine tN (fun b_ => [(1, .I k), (2, .I n), (3, .I limit), (4, .P b1 0), (8, .P b3 0), (23, .bool b_)]) (elI O.size k) 0 (fun h7 => ?_) (fun h7 => ?_)
 ·
  omega
 ·
  refine qP 5 (sq 8 26) [(1, .I k), (2, .I n), (3, .I limit), (4, .P b1 0), (8, .P b3 0), (28, .bool (decide ((n : Int) < k)))] ?_
  refine tD (fun b_ => [(1, .I k), (2, .I n), (3, .I limit), (4, .P b1 0), (8, .P b3 0), (28, .bool b_)]) ((n : Int) < k) (fun h8 => ?_) (fun h8 => ?_)
  ·
   omega
  ·
   refine qP 4 (sq 12 26) [(1, .I k), (2, .I n), (3, .I limit), (4, .P b1 0), (8, .P b3 0), (32, .bool (decide ((n : Int) > 255)))] ?_
   refine tD (fun b_ => [(1, .I k), (2, .I n), (3, .I limit), (4, .P b1 0), (8, .P b3 0), (32, .bool b_)]) ((n : Int) > 255) (fun h9 => ?_) (fun h9 => ?_)
   ·
    omega
   ·
    refine qP 1 (sq 13 26) [(1, .I k), (2, .I n), (3, .I limit), (4, .P b1 0), (8, .P b3 0), (32, .bool false), (33, .P b1 6)] ?_
    refine qL .seq 34 (sq 14 26) 24 b1 6 6 (.slice a6O O.nodes.length k6O) (H.cells 1 rfl) ?_
    refine qP 5 (sq 19 26) [(1, .I k), (2, .I n), (3, .I limit), (4, .P b1 0), (8, .P b3 0), (39, .bool (((O.nodes.length : Nat) : Int) != n))] ?_
    refine tN (fun b_ => [(1, .I k), (2, .I n), (3, .I limit), (4, .P b1 0), (8, .P b3 0), (39, .bool b_)]) ((O.nodes.length : Nat) : Int) n (fun h10 => ?_) (fun h10 => ?_)
    ·
     omega
    ·
     refine qP 4 (sq 23 26) [(1, .I k), (2, .I n), (3, .I limit), (4, .P b1 0), (8, .P b3 0), (43, .bool (decide ((limit : Int) < 1)))] ?_
     refine tD (fun b_ => [(1, .I k), (2, .I n), (3, .I limit), (4, .P b1 0), (8, .P b3 0), (43, .bool b_)]) ((limit : Int) < 1) (fun h11 => ?_) (fun h11 => ?_)
     ·
      omega
     ·
      refine qF 3 [(1, .I k), (2, .I n), (3, .I limit), (4, .P b1 0), (8, .P b3 0), (46, .bool (decide ((limit : Int) > 100000)))] ?_
      refine qD ((limit : Int) > 100000) (fun h12 => ?_) (fun h12 => ?_)
      ·
       omega
      ·
       refine qR 2 [.c [3, 0], .c [4]] [(1, .I k), (2, .I n), (3, .I limit), (4, .P b1 0), (8, .P b3 0)] ?_
       refine qG (sq 0 6) ?_
       refine RW.new (κ := .seq) (d := some 48) (r := (sq 1 6)) (o := .cells #[] 3 (0, 0)) (v := fun b => .slice (some ⟨b, 0, none⟩) 0 0) (fun b => by as_aux_lemma => kernel_rfl) (nofun) H ?_
       intro b13 w14 H
       refine qP 1 (sq 2 6) [(1, .I k), (2, .I n), (3, .I limit), (4, .P b1 0), (8, .P b3 0), (48, .slice (some ⟨b13, 0, none⟩) 0 0), (49, .P b1 6)] ?_
       refine qL .seq 50 (sq 3 6) 24 b1 6 6 (.slice a6O O.nodes.length k6O) (H.cells 2 rfl) ?_
       have H := H.toOwn (sh := Shape.int .i64) (xs := []) (cap := 0) (by rfl) (Nat.le_refl _) (Nat.zero_le _) (by simp) EsP.nil
       have H : Hp w S [] [(b3, .cells (rdZ).toArray 30 (0, 0)), (b1, .cells (objV O a6O k6O).toArray 26 (0, 0))] [⟨Shape.int .i64, 3, .slice (some ⟨b13, 0, none⟩) 0 0, []⟩] [Rp Li [.slice a6O O.nodes.length k6O] O.nodes] _ := H
       refine RW.appendW (d := some 51) (r := (sq 4 6)) (T := 24) (ty := 24) (e := 3) (m := 1) (by_ := 8) (v := .slice (some ⟨b13, 0, none⟩) 0 0) (a2 := a6O) (l2 := O.nodes.length) (c2 := k6O) (zs := O.nodes) (by as_aux_lemma => kernel_rfl) (by as_aux_lemma => kernel_rfl) rfl H 0 rfl 0 rfl (rfl) (by omega) ?_
       intro a15 c16 w18 H hc17
       have H : Hp w S [] [(b3, .cells (rdZ).toArray 30 (0, 0)), (b1, .cells (objV O a6O k6O).toArray 26 (0, 0))] [⟨Shape.int .i64, 3, .slice a15 O.nodes.length c16, O.nodes⟩] [Rp Li [.slice a6O O.nodes.length k6O] O.nodes] _ := H
       refine qP 1 (sq 5 6) [(1, .I k), (2, .I n), (3, .I limit), (4, .P b1 0), (8, .P b3 0), (51, .slice a15 O.nodes.length c16), (52, .P b1 6)] ?_
       refine qW 24 b1 6 (sq 6 6) (.slice a15 O.nodes.length c16) [(b3, .cells (rdZ).toArray 30 (0, 0)), (b1, .cells (objV O a15 c16).toArray 26 (0, 0))] H 1 rfl rfl ?_
       intro w19 H
       refine qF 0 [(1, .I k), (2, .I n), (3, .I limit), (4, .P b1 0), (8, .P b3 0)] ?_
       refine qR 1 [.c [4, 0], .c [5]] [(1, .I k), (2, .I n), (3, .I limit), (4, .P b1 0), (8, .P b3 0)] ?_
       refine qG (sq 0 7) ?_
       refine qL .seq 53 (sq 1 7) 26 b1 0 0 (.agg (objV O a15 c16).toArray) (H.cells 1 rfl) ?_
       refine qP 4 (sq 5 7) [(8, .P b3 0), (57, .agg #[.string O.key, .int .u64 O.version, .I O.size, .int .u32 ((O.sum.toNat : Nat) : Int), .I O.group, .int .u64 O.epoch, .slice a15 O.nodes.length c16, .I k, .I n, .slice none 0 0, .slice none 0 0, .I 0, .I limit, .I 0])] ?_
       refine qB .seq 13 (sq 6 7) ((rdZ).toArray) 30 H ?_
       intro b20 w21 H
       refine qW 30 b20 0 (sq 7 7) (.agg #[.string O.key, .int .u64 O.version, .I O.size, .int .u32 ((O.sum.toNat : Nat) : Int), .I O.group, .int .u64 O.epoch, .slice a15 O.nodes.length c16, .I k, .I n, .slice none 0 0, .slice none 0 0, .I 0, .I limit, .I 0]) [(b20, .cells #[.string O.key, .int .u64 O.version, .I O.size, .int .u32 ((O.sum.toNat : Nat) : Int), .I O.group, .int .u64 O.epoch, .slice a15 O.nodes.length c16, .I k, .I n, .slice none 0 0, .slice none 0 0, .I 0, .I limit, .I 0] 30 (0, 0)), (b3, .cells (rdZ).toArray 30 (0, 0)), (b1, .cells (objV O a15 c16).toArray 26 (0, 0))] H 0 rfl rfl ?_
       intro w22 H
       refine qF 0 [(8, .P b3 0), (13, .P b20 0)] ?_
       refine qR 1 [.c [5, 0], .c [6]] [(8, .P b3 0), (13, .P b20 0)] ?_
       refine WK.draw1 3 [(0, .qui), (1, .qui), (2, .chn)] [(0, .qui), (1, .qui), (2, .chn), (3, .seq), (4, .seq), (5, .seq)] Try_mixed (by as_aux_lemma => kernel_rfl) (by as_aux_lemma => kernel_rfl) (by as_aux_lemma => kernel_rfl) ?_
       have H := H.draw
       generalize ({ w22 with drawn := w22.drawn + 1 } : World) = w23 at H ⊢
       refine qL .qui 58 [(1, .qui), (2, .chn), (3, .seq), (4, .seq), (5, .seq)] 30 b20 0 0 (.agg #[.string O.key, .int .u64 O.version, .I O.size, .int .u32 ((O.sum.toNat : Nat) : Int), .I O.group, .int .u64 O.epoch, .slice a15 O.nodes.length c16, .I k, .I n, .slice none 0 0, .slice none 0 0, .I 0, .I limit, .I 0]) (H.cells 0 rfl) ?_
       refine qL .qui 59 [(2, .chn), (3, .seq), (4, .seq), (5, .seq)] 30 b20 0 0 (.agg #[.string O.key, .int .u64 O.version, .I O.size, .int .u32 ((O.sum.toNat : Nat) : Int), .I O.group, .int .u64 O.epoch, .slice a15 O.nodes.length c16, .I k, .I n, .slice none 0 0, .slice none 0 0, .I 0, .I limit, .I 0]) (H.cells 0 rfl) ?_
       have H : Hp w S [] [(b20, .cells #[.string O.key, .int .u64 O.version, .I O.size, .int .u32 ((O.sum.toNat : Nat) : Int), .I O.group, .int .u64 O.epoch, .slice a15 O.nodes.length c16, .I k, .I n, .slice none 0 0, .slice none 0 0, .I 0, .I limit, .I 0] 30 (0, 0)), (b3, .cells (rdZ).toArray 30 (0, 0)), (b1, .cells (objV O a15 c16).toArray 26 (0, 0))] [] [Rp Li [.slice a15 O.nodes.length c16] O.nodes, Rp Li [.slice a6O O.nodes.length k6O] O.nodes] _ := H.freezeW 0 rfl
       refine qK .chn (some 60) [(3, .seq), (4, .seq), (5, .seq)] 19 #[.agg #[.string O.key, .int .u64 O.version, .I O.size, .int .u32 ((O.sum.toNat : Nat) : Int), .I O.group, .int .u64 O.epoch, .slice a15 O.nodes.length c16, .I k, .I n, .slice none 0 0, .slice none 0 0, .I 0, .I limit, .I 0]] (rmsgs_spec (S := Av S w [] (idsOf [(b20, .cells #[.string O.key, .int .u64 O.version, .I O.size, .int .u32 ((O.sum.toNat : Nat) : Int), .I O.group, .int .u64 O.epoch, .slice a15 O.nodes.length c16, .I k, .I n, .slice none 0 0, .slice none 0 0, .I 0, .I limit, .I 0] 30 (0, 0)), (b3, .cells (rdZ).toArray 30 (0, 0)), (b1, .cells (objV O a15 c16).toArray 26 (0, 0))] [])) (r := ⟨O, k, n, [], [], 0, limit, 0⟩) (rd_mk (y0 := O) (obj_mk (y0 := O.key) (y1 := O.version) (y2 := O.size) (y3 := O.sum) (y4 := O.group) (y5 := O.epoch) (y6 := O.nodes) ⟨rfl, h0O⟩ u64a i64a Shape.bv_mk i64a u64a (H.rp 0 rfl)) i64a i64a Shape.slice_nil Shape.slice_nil (Shape.int_mk (by decide)) i64a (Shape.int_mk (by decide))) (by show O.nodes.length ≤ 1000000; omega) rfl rfl) ?_
       rintro _ w24 hE27 ⟨a25, c26, rfl, hr28⟩
       have H := H.addN hE27 (F := Rp (Shape.slice msgS) [.slice a25 ((asksR (⟨O, k, n, [], [], 0, limit, 0⟩)).length) c26] (asksR (⟨O, k, n, [], [], 0, limit, 0⟩))) hr28
       refine qW 30 b3 0 [(4, .seq), (5, .seq)] (.agg #[.string O.key, .int .u64 O.version, .I O.size, .int .u32 ((O.sum.toNat : Nat) : Int), .I O.group, .int .u64 O.epoch, .slice a15 O.nodes.length c16, .I k, .I n, .slice none 0 0, .slice none 0 0, .I 0, .I limit, .I 0]) [(b20, .cells #[.string O.key, .int .u64 O.version, .I O.size, .int .u32 ((O.sum.toNat : Nat) : Int), .I O.group, .int .u64 O.epoch, .slice a15 O.nodes.length c16, .I k, .I n, .slice none 0 0, .slice none 0 0, .I 0, .I limit, .I 0] 30 (0, 0)), (b3, .cells #[.string O.key, .int .u64 O.version, .I O.size, .int .u32 ((O.sum.toNat : Nat) : Int), .I O.group, .int .u64 O.epoch, .slice a15 O.nodes.length c16, .I k, .I n, .slice none 0 0, .slice none 0 0, .I 0, .I limit, .I 0] 30 (0, 0)), (b1, .cells (objV O a15 c16).toArray 26 (0, 0))] H 1 rfl rfl ?_
       intro w29 H
       refine qF 2 [(8, .P b3 0), (9, .slice a25 ((asksR (⟨O, k, n, [], [], 0, limit, 0⟩)).length) c26), (10, .I 0)] ?_
       refine qRB (.tuple #[.agg #[.string O.key, .int .u64 O.version, .I O.size, .int .u32 ((O.sum.toNat : Nat) : Int), .I O.group, .int .u64 O.epoch, .slice a15 O.nodes.length c16, .I k, .I n, .slice none 0 0, .slice none 0 0, .I 0, .I limit, .I 0], .slice a25 ((asksR (⟨O, k, n, [], [], 0, limit, 0⟩)).length) c26, .I 0]) Tryz.func6 (v3 (.cell 8 30) (.tmp 9) (.tmp 10) (vC (H.cells 1 rfl)) vT vT) ?_
       exact ⟨_, rfl, H.done, [.string O.key, .int .u64 O.version, .I O.size, .int .u32 ((O.sum.toNat : Nat) : Int), .I O.group, .int .u64 O.epoch, .slice a15 O.nodes.length c16, .I k, .I n, .slice none 0 0, .slice none 0 0, .I 0, .I limit, .I 0], _, _, rfl, H.out (rd_mk (y0 := O) (obj_mk (y0 := O.key) (y1 := O.version) (y2 := O.size) (y3 := O.sum) (y4 := O.group) (y5 := O.epoch) (y6 := O.nodes) ⟨rfl, h0O⟩ u64a i64a Shape.bv_mk i64a u64a (H.rp 1 rfl)) i64a i64a Shape.slice_nil Shape.slice_nil (Shape.int_mk (by decide)) i64a (Shape.int_mk (by decide))), H.out (H.rp 0 rfl)⟩
theorem rbegin_bad {S : Nat → Prop} {w : World} {O : ObjD} {os : List Value} (hO : objS.rep S w os O) (k n limit : Int) (hb : ¬ okB O k n limit) :
 Calls Tryz.prog 6 #[.agg os.toArray, .I k, .I n, .I limit] w (Ret fun v w' => Ext w w' ∧ v = .tuple #[.agg (rdZ).toArray, .slice none 0 0, .I 2]) := by
 obtain ⟨a6O, k6O, rfl, h0O, h1O, h2O, h4O, h5O, h6O⟩ := obj_open hO
 unfold okB at hb
 refine qS (fn := Tryz.f6) (n := 61) (σ := [(0, .agg (objV O a6O k6O).toArray), (1, .I k), (2, .I n), (3, .I limit)]) Tryz.func6 ?_
 have H := Hp.startF (w := w) (S := S) (G := [Rp Li [.slice a6O O.nodes.length k6O] O.nodes]) (.rp h6O .nil)
 refine qR 1 [.c [0], .c [1]] [(0, .agg (objV O a6O k6O).toArray), (1, .I k), (2, .I n), (3, .I limit)] ?_
 refine qG (sq 0 4) ?_
 refine qB .seq 4 (sq 1 4) ((objV O a6O k6O).toArray) 26 H ?_
 intro b1 w2 H
 refine qB .seq 8 (sq 2 4) ((rdZ).toArray) 30 H ?_
 intro b3 w4 H
 refine qF 2 [(1, .I k), (2, .I n), (3, .I limit), (4, .P b1 0), (8, .P b3 0)] ?_
 refine qR 1 [.c [1, 0], .c [2]] [(1, .I k), (2, .I n), (3, .I limit), (4, .P b1 0), (8, .P b3 0)] ?_
 refine qG (sq 0 9) ?_
 refine qP 1 (sq 1 9) [(1, .I k), (2, .I n), (3, .I limit), (4, .P b1 0), (8, .P b3 0), (15, .P b1 2)] ?_
 refine qL .seq 16 (sq 2 9) 3 b1 2 2 (.I O.size) (H.cells 1 rfl) ?_
 refine qP 1 (sq 3 9) [(1, .I k), (2, .I n), (3, .I limit), (4, .P b1 0), (8, .P b3 0), (16, .I O.size), (17, .I k)] ?_
 refine qK .seq (some 18) (sq 4 9) 18 #[.I O.size, .I k] (r4len_gen (S := fun _ => True) O.size k) ?_
 rintro _ w5 hE6 rfl
 have H := H.ext hE6
 refine qF 5 [(1, .I k), (2, .I n), (3, .I limit), (4, .P b1 0), (8, .P b3 0), (12, .I (elI O.size k))] ?_
 refine qR 2 [.c [2, 0, 0], .c [2, 0, 1], .c [3]] [(1, .I k), (2, .I n), (3, .I limit), (4, .P b1 0), (8, .P b3 0), (12, .I (elI O.size k))] ?_
 refine WK.join (fun b_ : Bool => b_ = decide (elI O.size k ≠ 0 ∨ n < k ∨ n > 255 ∨ (O.nodes.length : Int) ≠ n ∨ limit < 1 ∨ limit > 100000)) (fun b_ => [(1, .I k), (2, .I n), (3, .I limit), (4, .P b1 0), (8, .P b3 0), (46, .bool b_)]) [Cq Tryz.prog 6 [2, 0, 1], Cq Tryz.prog 6 [3]] (fun hJ7 => ?_) (fun bj8 hbj9 => ?_)
 ·
  refine qG (sq 0 26) ?_
  refine qP 3 (sq 3 26) [(1, .I k), (2, .I n), (3, .I limit), (4, .P b1 0), (8, .P b3 0), (23, .bool ((elI O.size k) != 0))] ?_
  refine tN (fun b_ => [(1, .I k), (2, .I n), (3, .I limit), (4, .P b1 0), (8, .P b3 0), (23, .bool b_)]) (elI O.size k) 0 (fun h10 => ?_) (fun h10 => ?_)
  ·
   refine qF 23 [(1, .I k), (2, .I n), (3, .I limit), (4, .P b1 0), (8, .P b3 0), (46, .bool true)] ?_
   exact hJ7 true ((decide_eq_true (by omega)).symm)
  ·
   refine qP 5 (sq 8 26) [(1, .I k), (2, .I n), (3, .I limit), (4, .P b1 0), (8, .P b3 0), (28, .bool (decide ((n : Int) < k)))] ?_
   refine tD (fun b_ => [(1, .I k), (2, .I n), (3, .I limit), (4, .P b1 0), (8, .P b3 0), (28, .bool b_)]) ((n : Int) < k) (fun h11 => ?_) (fun h11 => ?_)
   ·
    refine qF 18 [(1, .I k), (2, .I n), (3, .I limit), (4, .P b1 0), (8, .P b3 0), (46, .bool true)] ?_
    exact hJ7 true ((decide_eq_true (by omega)).symm)
   ·
    refine qP 4 (sq 12 26) [(1, .I k), (2, .I n), (3, .I limit), (4, .P b1 0), (8, .P b3 0), (32, .bool (decide ((n : Int) > 255)))] ?_
    refine tD (fun b_ => [(1, .I k), (2, .I n), (3, .I limit), (4, .P b1 0), (8, .P b3 0), (32, .bool b_)]) ((n : Int) > 255) (fun h12 => ?_) (fun h12 => ?_)
    ·
     refine qF 14 [(1, .I k), (2, .I n), (3, .I limit), (4, .P b1 0), (8, .P b3 0), (46, .bool true)] ?_
     exact hJ7 true ((decide_eq_true (by omega)).symm)
    ·
     refine qP 1 (sq 13 26) [(1, .I k), (2, .I n), (3, .I limit), (4, .P b1 0), (8, .P b3 0), (32, .bool false), (33, .P b1 6)] ?_
     refine qL .seq 34 (sq 14 26) 24 b1 6 6 (.slice a6O O.nodes.length k6O) (H.cells 1 rfl) ?_
     refine qP 5 (sq 19 26) [(1, .I k), (2, .I n), (3, .I limit), (4, .P b1 0), (8, .P b3 0), (39, .bool (((O.nodes.length : Nat) : Int) != n))] ?_
     refine tN (fun b_ => [(1, .I k), (2, .I n), (3, .I limit), (4, .P b1 0), (8, .P b3 0), (39, .bool b_)]) ((O.nodes.length : Nat) : Int) n (fun h13 => ?_) (fun h13 => ?_)
     ·
      refine qF 7 [(1, .I k), (2, .I n), (3, .I limit), (4, .P b1 0), (8, .P b3 0), (46, .bool true)] ?_
      exact hJ7 true ((decide_eq_true (by omega)).symm)
     ·
      refine qP 4 (sq 23 26) [(1, .I k), (2, .I n), (3, .I limit), (4, .P b1 0), (8, .P b3 0), (43, .bool (decide ((limit : Int) < 1)))] ?_
      refine tD (fun b_ => [(1, .I k), (2, .I n), (3, .I limit), (4, .P b1 0), (8, .P b3 0), (43, .bool b_)]) ((limit : Int) < 1) (fun h14 => ?_) (fun h14 => ?_)
      ·
       refine qF 3 [(1, .I k), (2, .I n), (3, .I limit), (4, .P b1 0), (8, .P b3 0), (46, .bool true)] ?_
       exact hJ7 true ((decide_eq_true (by omega)).symm)
      ·
       refine qF 3 [(1, .I k), (2, .I n), (3, .I limit), (4, .P b1 0), (8, .P b3 0), (46, .bool (decide ((limit : Int) > 100000)))] ?_
       exact hJ7 (decide ((limit : Int) > 100000)) (decide_eq_decide.2 (by constructor <;> intro _ <;> omega))
 ·
  refine qC bj8 (fun h15 => ?_) (fun h15 => ?_)
  ·
   rw [hbj9] at h15
   replace h15 := of_decide_eq_true h15
   refine qR 1 [.c [2, 0, 1, 0, 0], .c [2, 0, 1, 0, 1], .c [3]] [(8, .P b3 0)] ?_
   refine qG (sq 0 4) ?_
   refine qP 1 (sq 1 4) [(8, .P b3 0), (47, .agg (rdZ).toArray)] ?_
   refine qW 30 b3 0 (sq 2 4) (.agg (rdZ).toArray) [(b3, .cells (rdZ).toArray 30 (0, 0)), (b1, .cells (objV O a6O k6O).toArray 26 (0, 0))] H 0 rfl rfl ?_
   intro w16 H
   refine qF 2 [(8, .P b3 0), (9, .slice none 0 0), (10, .I 2)] ?_
   refine qRB (.tuple #[.agg (rdZ).toArray, .slice none 0 0, .I 2]) Tryz.func6 (v3 (.cell 8 30) (.tmp 9) (.tmp 10) (vC (H.cells 0 rfl)) vT vT) ?_
   exact ⟨_, rfl, H.done, rfl⟩
  ·
   rw [hbj9] at h15
   replace h15 := of_decide_eq_false h15
   exact absurd (by omega) hb
theorem moves0_spec {S : Nat → Prop} {w : World} {xs : List Int} {a b : Option Addr} {c d : Nat} (h : Li.rep S w [.slice a xs.length c] xs) (h2 : Li.rep S w [.slice b xs.length d] xs) :
 Calls Tryz.prog 38 #[.slice a xs.length c, .slice b xs.length d] w (Ret fun v w' => Ext w w' ∧ v = .I 0) := by
 have hxl := Shape.slice_len h
 refine qS (fn := Tryz.f38) (n := 42) (σ := [(0, .slice a xs.length c), (1, .slice b xs.length d)]) Tryz.func38 ?_
 have H := Hp.startF (w := w) (S := S) (G := [Rp Li [.slice a xs.length c] xs, Rp Li [.slice b xs.length d] xs]) (.rp h (.rp h2 .nil))
 refine qR 3 [.c [1, 0], .c [2]] [(0, .slice a xs.length c), (1, .slice b xs.length d)] ?_
 refine qG (sq 0 12) ?_
 refine qP 4 (sq 4 12) [(0, .slice a xs.length c), (1, .slice b xs.length d), (8, .I ((xs.length : Nat) : Int)), (10, .I ((xs.length : Nat) : Int))] ?_
 refine RW.pv (κ := .seq) (d := some 11) (r := (sq 5 12)) (v' := .I ((xs.length : Nat) : Int)) (v := .I (if ((xs.length : Nat) : Int) > ((xs.length : Nat) : Int) then ((xs.length : Nat) : Int) else ((xs.length : Nat) : Int))) (by as_aux_lemma => kernel_rfl) (by simp) ?_
 refine qP 4 (sq 9 12) [(0, .slice a xs.length c), (1, .slice b xs.length d), (11, .I ((xs.length : Nat) : Int)), (13, .I ((xs.length : Nat) : Int)), (15, .I ((xs.length : Nat) : Int))] ?_
 refine RW.pv (κ := .seq) (d := some 16) (r := (sq 10 12)) (v' := .I ((xs.length : Nat) : Int)) (v := .I (if ((xs.length : Nat) : Int) < ((xs.length : Nat) : Int) then ((xs.length : Nat) : Int) else ((xs.length : Nat) : Int))) (by as_aux_lemma => kernel_rfl) (by simp) ?_
 refine qI .seq 17 (sq 11 12) (((xs.length : Nat) : Int) - ((xs.length : Nat) : Int)) ?_
 refine qF 1 [(0, .slice a xs.length c), (1, .slice b xs.length d), (5, .I (((xs.length : Nat) : Int) - ((xs.length : Nat) : Int)))] ?_
 refine qR 4 [.c [2, 0, 1, 0], .b 0, .c [3]] [(0, .slice a xs.length c), (1, .slice b xs.length d), (5, .I (((xs.length : Nat) : Int) - ((xs.length : Nat) : Int))), (6, .I 0)] ?_
 refine WK.loop (α := Nat) (b := cd Tryz.prog 38 [2, 0, 1, 0, 0]) (by as_aux_lemma => kernel_rfl) (fun i => [(0, .slice a xs.length c), (1, .slice b xs.length d), (5, .I 0), (6, .I i)]) (fun i w' => Hp w S [] [] [] [Rp Li [.slice a xs.length c] xs, Rp Li [.slice b xs.length d] xs] w' ∧ i ≤ xs.length) (fun i => xs.length - i) 0 ⟨H, Nat.zero_le _⟩ (by rw [Int.sub_self]; rfl) ?_
 rintro i w2 ⟨H, hinv0⟩ hback1
 refine qR 2 [.c [2, 0, 1, 0, 0, 0, 0], .c [2, 0, 1, 0, 0, 0, 1], .c [2, 0, 1, 0, 0, 1], .l [2, 0, 1, 0, 0], .b 0, .c [3]] [(0, .slice a xs.length c), (1, .slice b xs.length d), (5, .I 0), (6, .I i)] ?_
 refine WK.join (fun b_ : Bool => b_ = decide ((i : Int) < ((xs.length : Nat) : Int))) (fun b_ => [(0, .slice a xs.length c), (1, .slice b xs.length d), (5, .I 0), (6, .I i), (27, .bool b_)]) [Cq Tryz.prog 38 [2, 0, 1, 0, 0, 0, 1], Cq Tryz.prog 38 [2, 0, 1, 0, 0, 1], Lq Tryz.prog 38 [2, 0, 1, 0, 0], .inBlock 0, Cq Tryz.prog 38 [3]] (fun hJ3 => ?_) (fun bj4 hbj5 => ?_)
 ·
  refine qG (sq 0 10) ?_
  refine qP 5 (sq 5 10) [(0, .slice a xs.length c), (1, .slice b xs.length d), (5, .I 0), (6, .I i), (22, .bool (decide (((i : Int) : Int) < ((xs.length : Nat) : Int))))] ?_
  refine tD (fun b_ => [(0, .slice a xs.length c), (1, .slice b xs.length d), (5, .I 0), (6, .I i), (22, .bool b_)]) (((i : Int) : Int) < ((xs.length : Nat) : Int)) (fun h6 => ?_) (fun h6 => ?_)
  ·
   refine qF 5 [(0, .slice a xs.length c), (1, .slice b xs.length d), (5, .I 0), (6, .I i), (27, .bool (decide (((i : Int) : Int) < ((xs.length : Nat) : Int))))] ?_
   exact hJ3 (decide (((i : Int) : Int) < ((xs.length : Nat) : Int))) (decide_eq_decide.2 (by constructor <;> intro _ <;> omega))
  ·
   refine qF 5 [(0, .slice a xs.length c), (1, .slice b xs.length d), (5, .I 0), (6, .I i), (27, .bool false)] ?_
   exact hJ3 false ((decide_eq_false (by omega)).symm)
 ·
  refine qC bj4 (fun h7 => ?_) (fun h7 => ?_)
  ·
   rw [hbj5] at h7
   replace h7 := of_decide_eq_true h7
   refine qR 4 [.c [2, 0, 1, 0, 0, 1, 0, 0, 0], .c [2, 0, 1, 0, 0, 1, 0, 0, 1], .b 1, .c [2, 0, 1, 0, 0, 2], .l [2, 0, 1, 0, 0], .b 0, .c [3]] [(0, .slice a xs.length c), (1, .slice b xs.length d), (5, .I 0), (6, .I i)] ?_
   refine WK.draw1 9 (qs [0, 1, 2, 3, 4, 5, 6, 7, 8]) (qs [0, 1, 2, 3, 4, 5, 6, 7, 8]) Try_mixed (by as_aux_lemma => kernel_rfl) (by as_aux_lemma => kernel_rfl) (by as_aux_lemma => kernel_rfl) ?_
   have H := H.draw
   generalize ({ w2 with drawn := w2.drawn + 1 } : World) = w8 at H ⊢
   refine qP 2 (qs [2, 3, 4, 5, 6, 7, 8]) [(0, .slice a xs.length c), (1, .slice b xs.length d), (5, .I 0), (6, .I i), (30, .slice a xs.length c), (31, .I i)] ?_
   have hx9 : i < xs.length := by omega
   refine qX .qui 32 (qs [3, 4, 5, 6, 7, 8]) 24 3 (i : Int) Si (xs[i]) H 0 rfl i (by omega) (List.getElem?_eq_getElem hx9) ?_
   intro b10 o11 es12 hr13 H
   have hb14 := Shape.i64_bd hr13
   obtain ⟨rfl, -⟩ := hr13
   refine qL .qui 33 (qs [4, 5, 6, 7, 8]) 3 b10 o11 0 (.I (xs[i])) (H.fc 0 rfl) ?_
   refine qP 2 (qs [6, 7, 8]) [(0, .slice a xs.length c), (1, .slice b xs.length d), (5, .I 0), (6, .I i), (33, .I (xs[i])), (34, .slice b xs.length d), (35, .I i)] ?_
   have hx15 : i < xs.length := by omega
   refine qX .qui 36 (qs [7, 8]) 24 3 (i : Int) Si (xs[i]) H 2 rfl i (by omega) (List.getElem?_eq_getElem hx15) ?_
   intro b16 o17 es18 hr19 H
   have hb20 := Shape.i64_bd hr19
   obtain ⟨rfl, -⟩ := hr19
   refine qL .qui 37 [(8, .qui)] 3 b16 o17 0 (.I (xs[i])) (H.fc 0 rfl) ?_
   refine qF 1 [(0, .slice a xs.length c), (1, .slice b xs.length d), (5, .I 0), (6, .I i), (38, .bool ((xs[i]) != (xs[i])))] ?_
   refine qN (xs[i]) (xs[i]) (fun h21 => ?_) (fun h21 => ?_)
   ·
    exact absurd rfl h21
   ·
    refine qR 2 [.c [2, 0, 1, 0, 0, 2], .l [2, 0, 1, 0, 0], .b 0, .c [3]] [(0, .slice a xs.length c), (1, .slice b xs.length d), (5, .I 0), (6, .I i)] ?_
    refine qG (sq 0 3) ?_
    refine qP 1 (sq 1 3) [(0, .slice a xs.length c), (1, .slice b xs.length d), (5, .I 0), (6, .I i), (28, .I i)] ?_
    refine qI .seq 29 (sq 2 3) ((i : Int) + 1) ?_
    refine qF 1 [(0, .slice a xs.length c), (1, .slice b xs.length d), (5, .I 0), (6, .I ((i : Int) + 1))] ?_
    have H := H.pick [2, 3] rfl
    exact WK.back (hback1 (i + 1) _ ⟨H, by omega⟩ (by first | omega | (simp only []; omega))) (by as_aux_lemma => kernel_rfl)
  ·
   rw [hbj5] at h7
   replace h7 := of_decide_eq_false h7
   refine qR 3 [.c [4]] [(4, .I 0)] ?_
   refine qT (.I 0) Tryz.func38 ?_
   exact ⟨_, rfl, H.done, rfl⟩
theorem ints_eq {S : Nat → Prop} {w : World} {xs : List Int} {a b : Option Addr} {c d : Nat} (h : Li.rep S w [.slice a xs.length c] xs) (h2 : Li.rep S w [.slice b xs.length d] xs) :
 Calls Tryz.prog 20 #[.slice a xs.length c, .slice b xs.length d] w (Ret fun v w' => Ext w w' ∧ v = .bool true) := by
 refine qS (fn := Tryz.f20) (n := 16) (σ := [(0, .slice a xs.length c), (1, .slice b xs.length d)]) Tryz.func20 ?_
 have H := Hp.startF (w := w) (S := S) (G := [Rp Li [.slice a xs.length c] xs, Rp Li [.slice b xs.length d] xs]) (.rp h (.rp h2 .nil))
 refine qR 3 [.c [1, 0], .c [2]] [(0, .slice a xs.length c), (1, .slice b xs.length d)] ?_
 refine qG (sq 0 12) ?_
 refine qP 6 (sq 6 12) [(0, .slice a xs.length c), (1, .slice b xs.length d), (10, .bool (((xs.length : Nat) : Int) == ((xs.length : Nat) : Int)))] ?_
 refine tE (fun b_ => [(0, .slice a xs.length c), (1, .slice b xs.length d), (10, .bool b_)]) ((xs.length : Nat) : Int) ((xs.length : Nat) : Int) (fun h1 => ?_) (fun h1 => ?_)
 ·
  refine qP 2 (sq 8 12) [(10, .bool true), (11, .slice a xs.length c), (12, .slice b xs.length d)] ?_
  refine qK .seq (some 13) (sq 9 12) 38 #[.slice a xs.length c, .slice b xs.length d] (moves0_spec (S := fun _ => True) (xs := xs) (H.viewF 0 rfl) (H.viewF 1 rfl)) ?_
  rintro _ w2 hE3 rfl
  have H := H.ext hE3
  refine qF 3 [(4, .bool true)] ?_
  refine qT (.bool true) Tryz.func20 ?_
  exact ⟨_, rfl, H.done, rfl⟩
 ·
  exact absurd rfl h1
end Go.Proofs.YtppcdmbkgficiaaGreat
