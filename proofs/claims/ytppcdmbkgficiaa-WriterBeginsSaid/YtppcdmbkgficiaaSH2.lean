import Derived.Test.YtppcdmbkgficiaaSBxA
import Derived.Test.YtppcdmbkgficiaaSH1
namespace Go.Proofs.Ytppcdmbkgficiaa
open Go.BX
theorem r20begin_bad {S : Nat → Prop} {w : World} {xs : List (BitVec 8)} {a : Option Addr} {c : Nat} (client seq : Int) (key : ByteArray) (h : SB.rep S w [.slice a xs.length c] xs) {R : Res} {rs : List Value} (hR : resS.rep S w rs R) (limit : Int) (k n : Int) (hb : ¬ (okS (xs.length : Int) k n ∧ (R.nodes.length : Int) = n ∧ 1 ≤ limit ∧ limit ≤ 100000)) :
 Calls Try.prog 19 #[.int .u64 client, .int .u64 seq, .string key, .slice a xs.length c, .I k, .I n, .agg rs.toArray, .I limit] w (Ret fun v w' => Ext w w' ∧ v = .tuple #[.agg (wrZ).toArray, .slice none 0 0, .I 2]) := by
 obtain ⟨b, d, rfl, _, _, e, _⟩ := res_open hR
 have hec : encC xs k n = 0 ∧ okS (xs.length : Int) k n ∨ encC xs k n = 2 := by
  unfold encC
  split
  · rename_i q; exact .inl ⟨rfl, q⟩
  · exact .inr rfl
 refine uS1 Try.func19 ?_
 have H := Hp.startF (.rp h (.rp e .nil))
 refine uR 1 [.c [0], .c [1]] ?_
 refine qG (sq 0 4) ?_
 refine uC ((resV R b d).toArray) 27 H ?_
 intro _ _ H
 refine uC ((wrZ).toArray) 32 H ?_
 intro f _ H
 refine uF 2 ?_
 refine uR 1 [.c [1, 0], .c [2]] ?_
 refine qG (sq 0 9) ?_
 refine uP 3 ?_
 refine uK (encR_gen (xs := xs) k n (H.rp 0 rfl)) ?_
 rintro _ _ g ⟨_, _, rfl, i⟩
 have H := H.addM g i
 refine uF 5 ?_
 refine uR 2 [.c [2, 0, 0], .c [2, 0, 1], .c [3]] ?_
 refine qG (sq 0 17) ?_
 refine uP 3 ?_
 refine uN 33 (encC xs k n) 0 (fun j => ?_) (fun j => ?_)
 ·
  refine uF 14 ?_
  refine uR 2 [.c [2, 0, 1, 0, 0], .c [2, 0, 1, 0, 1], .c [3]] ?_
  refine qG (sq 0 4) ?_
  refine uP 1 ?_
  refine uW 32 0 (wrZ).toArray H 0 rfl ?_
  intro _ H
  refine qF 2 [(16, .P f 0), (17, .slice none 0 0), (18, .I 2)] ?_
  refine qRB (.tuple #[.agg (wrZ).toArray, .slice none 0 0, .I 2]) Try.func19 (v3 (.cell 16 32) (.tmp 17) (.tmp 18) (vC (H.cells 0 rfl)) vT vT) ?_
  exact ⟨_, rfl, H.done, rfl⟩
 ·
  refine uP 1 ?_
  refine uV 25 2 (H.cells 1 rfl) ?_
  refine uP 5 ?_
  refine uN 40 ((R.nodes.length : Nat) : Int) n (fun l => ?_) (fun l => ?_)
  ·
   refine uF 7 ?_
   refine uR 2 [.c [2, 0, 1, 0, 0], .c [2, 0, 1, 0, 1], .c [3]] ?_
   refine qG (sq 0 4) ?_
   refine uP 1 ?_
   refine uW 32 0 (wrZ).toArray H 0 rfl ?_
   intro _ H
   refine uF 2 ?_
   refine qRB (.tuple #[.agg (wrZ).toArray, .slice none 0 0, .I 2]) Try.func19 (v3 (.cell 16 32) (.tmp 17) (.tmp 18) (vC (H.cells 0 rfl)) vT vT) ?_
   exact ⟨_, rfl, H.done, rfl⟩
  ·
   refine uP 4 ?_
   refine uD 44 ((limit : Int) < 1) (fun m => ?_) (fun m => ?_)
   ·
    refine uF 3 ?_
    refine uR 2 [.c [2, 0, 1, 0, 0], .c [2, 0, 1, 0, 1], .c [3]] ?_
    refine qG (sq 0 4) ?_
    refine uP 1 ?_
    refine uW 32 0 (wrZ).toArray H 0 rfl ?_
    intro _ H
    refine qF 2 [(16, .P f 0), (17, .slice none 0 0), (18, .I 2)] ?_
    refine qRB (.tuple #[.agg (wrZ).toArray, .slice none 0 0, .I 2]) Try.func19 (v3 (.cell 16 32) (.tmp 17) (.tmp 18) (vC (H.cells 0 rfl)) vT vT) ?_
    exact ⟨_, rfl, H.done, rfl⟩
   ·
    refine uF 3 ?_
    refine qD ((limit : Int) > 100000) (fun o => ?_) (fun o => ?_)
    ·
     refine uR 1 [.c [2, 0, 1, 0, 0], .c [2, 0, 1, 0, 1], .c [3]] ?_
     refine qG (sq 0 4) ?_
     refine uP 1 ?_
     refine uW 32 0 (wrZ).toArray H 0 rfl ?_
     intro _ H
     refine uF 2 ?_
     refine qRB (.tuple #[.agg (wrZ).toArray, .slice none 0 0, .I 2]) Try.func19 (v3 (.cell 16 32) (.tmp 17) (.tmp 18) (vC (H.cells 0 rfl)) vT vT) ?_
     exact ⟨_, rfl, H.done, rfl⟩
    ·
     exact absurd ⟨(hec.resolve_right (by omega)).2, by omega, by omega, by omega⟩ hb
theorem moves0_spec {S : Nat → Prop} {w : World} {xs : List Int} {a b : Option Addr} {c d : Nat} (h : (Shape.slice (Shape.int .i64)).rep S w [.slice a xs.length c] xs) (h2 : (Shape.slice (Shape.int .i64)).rep S w [.slice b xs.length d] xs) :
 Calls Try.prog 90 #[.slice a xs.length c, .slice b xs.length d] w (Ret fun v w' => Ext w w' ∧ v = .I 0) := by
 have hxl := Shape.slice_len h
 refine uS1 Try.func90 ?_
 have H := Hp.startF (.rp h (.rp h2 .nil))
 refine uR 3 [.c [1, 0], .c [2]] ?_
 refine qG (sq 0 12) ?_
 refine uP 4 ?_
 refine RW.pv (κ := .seq) (d := some 11) (r := (sq 5 12)) (v' := .I ((xs.length : Nat) : Int)) (v := .I (if ((xs.length : Nat) : Int) > ((xs.length : Nat) : Int) then ((xs.length : Nat) : Int) else ((xs.length : Nat) : Int))) (by as_aux_lemma => kernel_rfl) (by simp) ?_
 refine uP 4 ?_
 refine RW.pv (κ := .seq) (d := some 16) (r := (sq 10 12)) (v' := .I ((xs.length : Nat) : Int)) (v := .I (if ((xs.length : Nat) : Int) < ((xs.length : Nat) : Int) then ((xs.length : Nat) : Int) else ((xs.length : Nat) : Int))) (by as_aux_lemma => kernel_rfl) (by simp) ?_
 refine uI (((xs.length : Nat) : Int) - ((xs.length : Nat) : Int)) ?_
 refine uF 1 ?_
 refine qR 4 [.c [2, 0, 1, 0], .b 0, .c [3]] [(0, .slice a xs.length c), (1, .slice b xs.length d), (5, .I (((xs.length : Nat) : Int) - ((xs.length : Nat) : Int))), (6, .I 0)] ?_
 refine WK.loop (α := Nat) (b := cd Try.prog 90 [2, 0, 1, 0, 0]) (by as_aux_lemma => kernel_rfl) (fun i => [(0, .slice a xs.length c), (1, .slice b xs.length d), (5, .I 0), (6, .I i)]) (fun i w' => Hp w S [] [] [] [Rp (Shape.slice (Shape.int .i64)) [.slice a xs.length c] xs, Rp (Shape.slice (Shape.int .i64)) [.slice b xs.length d] xs] w' ∧ i ≤ xs.length) (fun i => xs.length - i) 0 ⟨H, Nat.zero_le _⟩ (by rw [Int.sub_self]; rfl) ?_
 rintro i p ⟨H, _⟩ f
 refine uR 2 [.c [2, 0, 1, 0, 0, 0, 0], .c [2, 0, 1, 0, 0, 0, 1], .c [2, 0, 1, 0, 0, 1], .l [2, 0, 1, 0, 0], .b 0, .c [3]] ?_
 refine WK.join (fun b_ : Bool => b_ = decide ((i : Int) < ((xs.length : Nat) : Int))) (fun b_ => [(0, .slice a xs.length c), (1, .slice b xs.length d), (5, .I 0), (6, .I i), (27, .bool b_)]) [Cq Try.prog 90 [2, 0, 1, 0, 0, 0, 1], Cq Try.prog 90 [2, 0, 1, 0, 0, 1], Lq Try.prog 90 [2, 0, 1, 0, 0], .inBlock 0, Cq Try.prog 90 [3]] (fun m => ?_) (fun q g => ?_)
 ·
  refine qG (sq 0 10) ?_
  refine uP 5 ?_
  refine uD 22 (((i : Int) : Int) < ((xs.length : Nat) : Int)) (fun t => ?_) (fun t => ?_)
  ·
   refine uF 5 ?_
   exact uB (m (decide (((i : Int) : Int) < ((xs.length : Nat) : Int))) (decide_eq_decide.2 (by constructor <;> intro _ <;> omega)))
  ·
   refine uF 5 ?_
   exact uB (m false ((decide_eq_false (by omega)).symm))
 ·
  refine qC q (fun e => ?_) (fun e => ?_)
  ·
   rw [g] at e
   replace e := of_decide_eq_true e
   refine uR 4 [.c [2, 0, 1, 0, 0, 1, 0, 0, 0], .c [2, 0, 1, 0, 0, 1, 0, 0, 1], .b 1, .c [2, 0, 1, 0, 0, 2], .l [2, 0, 1, 0, 0], .b 0, .c [3]] ?_
   refine WK.draw1 9 (qs [0, 1, 2, 3, 4, 5, 6, 7, 8]) (qs [0, 1, 2, 3, 4, 5, 6, 7, 8]) Try_mixed (by as_aux_lemma => kernel_rfl) (by as_aux_lemma => kernel_rfl) (by as_aux_lemma => kernel_rfl) ?_
   have H := H.draw
   generalize ({ p with drawn := p.drawn + 1 } : World) = y at H ⊢
   refine uP 2 ?_
   have s : i < xs.length := by omega
   refine uX 25 (i : Int) H 0 rfl i (by omega) (List.getElem?_eq_getElem s) ?_
   intro _ _ _ j H
   have u := Shape.i64_bd j
   obtain ⟨rfl, -⟩ := j
   refine uV 3 0 (H.fc 0 rfl) ?_
   refine uP 2 ?_
   have o : i < xs.length := by omega
   refine uX 25 (i : Int) H 2 rfl i (by omega) (List.getElem?_eq_getElem o) ?_
   intro _ _ _ k H
   have x := Shape.i64_bd k
   obtain ⟨rfl, -⟩ := k
   refine uV 3 0 (H.fc 0 rfl) ?_
   refine uF 1 ?_
   refine qN (xs[i]) (xs[i]) (fun n => ?_) (fun n => ?_)
   ·
    exact absurd rfl n
   ·
    refine uR 2 [.c [2, 0, 1, 0, 0, 2], .l [2, 0, 1, 0, 0], .b 0, .c [3]] ?_
    refine qG (sq 0 3) ?_
    refine uP 1 ?_
    refine uI ((i : Int) + 1) ?_
    refine qF 1 [(0, .slice a xs.length c), (1, .slice b xs.length d), (5, .I 0), (6, .I ((i : Int) + 1))] ?_
    have H := H.pick [2, 3] rfl
    exact uB (f (i + 1) _ ⟨H, by omega⟩ (by first | omega | (simp only []; omega)))
  ·
   rw [g] at e
   replace e := of_decide_eq_false e
   refine uR 3 [.c [4]] ?_
   refine qT (.I 0) Try.func90 ?_
   exact ⟨_, rfl, H.done, rfl⟩
theorem ints_eq {S : Nat → Prop} {w : World} {xs : List Int} {a b : Option Addr} {c d : Nat} (h : (Shape.slice (Shape.int .i64)).rep S w [.slice a xs.length c] xs) (h2 : (Shape.slice (Shape.int .i64)).rep S w [.slice b xs.length d] xs) :
 Calls Try.prog 59 #[.slice a xs.length c, .slice b xs.length d] w (Ret fun v w' => Ext w w' ∧ v = .bool true) := by
 refine uS1 Try.func59 ?_
 have H := Hp.startF (.rp h (.rp h2 .nil))
 refine uR 3 [.c [1, 0], .c [2]] ?_
 refine qG (sq 0 12) ?_
 refine uP 6 ?_
 refine uE 10 ((xs.length : Nat) : Int) ((xs.length : Nat) : Int) (fun e => ?_) (fun e => ?_)
 ·
  refine uP 2 ?_
  refine uK (moves0_spec (S := fun _ => True) (xs := xs) (H.viewF 0 rfl) (H.viewF 1 rfl)) ?_
  rintro _ _ f rfl
  have H := H.ext f
  refine uF 3 ?_
  refine qT (.bool true) Try.func59 ?_
  exact ⟨_, rfl, H.done, rfl⟩
 ·
  exact absurd rfl e
set_option maxHeartbeats 2000000 in
theorem r20same_spec {S : Nat → Prop} {w : World} {W : Wr} {cs : List Value} (hW : wrS.rep S w cs W) {cs2 : List Value} (h2 : wrS.rep S w cs2 W) :
 Calls Try.prog 20 #[.agg cs.toArray, .agg cs2.toArray] w (Ret fun v w' => Ext w w' ∧ v = .bool true) := by
 obtain ⟨t, u, x, y, z, A, B, C, rfl, _, _, _, D, E, F, G, _, _, _⟩ := wr_open hW
 obtain ⟨e, f, g, h, i, j, k, l, rfl, _, _, _, m, n, o, p, _, _, _⟩ := wr_open h2
 refine uS1 Try.func20 ?_
 have H := Hp.startF (.rp D (.rp E (.rp F (.rp G (.rp m (.rp n (.rp o (.rp p .nil))))))))
 refine uR 1 [.c [0], .c [1]] ?_
 refine qG (sq 0 3) ?_
 refine uC ((wrV W t u x y z A B C).toArray) 32 H ?_
 intro J _ H
 refine uC ((wrV W e f g h i j k l).toArray) 32 H ?_
 intro a _ H
 refine uF 1 ?_
 refine uR 1 [.c [1, 0], .c [2]] ?_
 refine qG (sq 0 69) ?_
 refine uP 1 ?_
 refine uV 22 0 (H.cells 1 rfl) ?_
 refine uP 1 ?_
 refine uV 22 0 (H.cells 0 rfl) ?_
 refine uP 2 ?_
 refine uE 10 W.client W.client (fun K => ?_) (fun K => ?_)
 ·
  refine uP 1 ?_
  refine uV 22 1 (H.cells 1 rfl) ?_
  refine uP 1 ?_
  refine uV 22 1 (H.cells 0 rfl) ?_
  refine uP 3 ?_
  refine uE 17 W.seq W.seq (fun L => ?_) (fun L => ?_)
  ·
   refine uP 1 ?_
   refine uV 9 2 (H.cells 1 rfl) ?_
   refine qP 1 (sq 16 69) [(2, .P J 0), (3, .P a 0), (17, .bool true), (19, .string W.key), (20, .P a 2)] ?_
   refine uV 9 2 (H.cells 0 rfl) ?_
   refine uP 3 ?_
   refine uE 24 W.key.toList W.key.toList (fun M => ?_) (fun M => ?_)
   ·
    refine uP 1 ?_
    refine uV 28 3 (H.cells 1 rfl) ?_
    refine uP 1 ?_
    refine uV 28 3 (H.cells 0 rfl) ?_
    refine uK (heads04_eq (ms := W.heads) (H.rp 0 rfl) (H.rp 4 rfl)) ?_
    rintro _ _ N rfl
    have H := H.ext N
    refine uP 3 ?_
    refine uV 29 4 (H.cells 1 rfl) ?_
    refine uP 1 ?_
    refine uV 29 4 (H.cells 0 rfl) ?_
    refine uK (rows02_eq (ms := W.chunks) (H.rp 1 rfl) (H.rp 5 rfl)) ?_
    rintro _ _ q rfl
    have H := H.ext q
    refine uP 3 ?_
    refine uV 25 5 (H.cells 1 rfl) ?_
    refine uP 1 ?_
    refine uV 25 5 (H.cells 0 rfl) ?_
    refine uK (ints_eq (S := fun _ => True) (xs := W.nodes) (H.viewF 2 rfl) (H.viewF 6 rfl)) ?_
    rintro _ _ r rfl
    have H := H.ext r
    refine uP 3 ?_
    refine uV 25 6 (H.cells 1 rfl) ?_
    refine uP 1 ?_
    refine uV 25 6 (H.cells 0 rfl) ?_
    refine uK (ints_eq (S := fun _ => True) (xs := W.acks) (H.viewF 3 rfl) (H.viewF 7 rfl)) ?_
    rintro _ _ s rfl
    have H := H.ext s
    refine uP 3 ?_
    refine uV 3 7 (H.cells 1 rfl) ?_
    refine qP 1 (sq 51 69) [(2, .P J 0), (3, .P a 0), (52, .bool true), (54, .I W.waited), (55, .P a 7)] ?_
    refine uV 3 7 (H.cells 0 rfl) ?_
    refine uP 3 ?_
    refine uE 59 W.waited W.waited (fun b => ?_) (fun b => ?_)
    ·
     refine uP 1 ?_
     refine uV 3 8 (H.cells 1 rfl) ?_
     refine uP 1 ?_
     refine uV 3 8 (H.cells 0 rfl) ?_
     refine uP 3 ?_
     refine uE 66 W.limit W.limit (fun d => ?_) (fun d => ?_)
     ·
      refine uP 1 ?_
      refine uV 30 9 (H.cells 1 rfl) ?_
      refine uP 1 ?_
      refine uV 30 9 (H.cells 0 rfl) ?_
      refine uF 3 ?_
      refine qT (.bool (W.done == W.done)) Try.func20 ?_
      refine ⟨_, rfl, H.done, ?_⟩
      simp
     ·
      exact absurd rfl d
    ·
     exact absurd rfl b
   ·
    exact absurd rfl M
  ·
   exact absurd rfl L
 ·
  exact absurd rfl K
end Go.Proofs.Ytppcdmbkgficiaa
