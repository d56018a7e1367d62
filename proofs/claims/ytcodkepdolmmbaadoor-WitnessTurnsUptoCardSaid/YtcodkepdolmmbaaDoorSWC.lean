import Derived.Test.YtcodkepdolmmbaaDoorSWB
import Derived.Test.YtcodkepdolmmbaaDoorSBxA
namespace Go.Proofs.YtcodkepdolmmbaaDoor
open Go.BX
theorem judged_perm {h m : List Wop} {a b : Bool} {e f : Int} (h1 : judged h a e) (h2 : judged m b f) (hp : m.Perm h) : a = b ∧ e = f := by
 constructor
 · rw [Bool.eq_iff_iff, h1.2.2, h2.2.2]
   exact ⟨legalH_perm hp, legalH_perm hp.symm⟩
 · have h3 := h1.2.1
   have h4 := h2.2.1
   have h5 : okH h ↔ okH m := ⟨okH_perm hp, okH_perm hp.symm⟩
   rcases h1.1 with q | q <;> rcases h2.1 with r | r
   · rw [q, r]
   · have := h4.2 (h5.1 (h3.1 q)); omega
   · have := h3.2 (h5.2 (h4.1 r)); omega
   · rw [q, r]
theorem rev_step {hs : List Wop} {k : Nat} (hk : k < hs.length) : (hs.drop (k + 1)).reverse ++ [hs[k]] = (hs.drop k).reverse := by
 rw [List.drop_eq_getElem_cons hk, List.reverse_cons]
theorem rot_perm (hs : List Wop) (k : Nat) : (hs.drop k ++ hs.take k).Perm hs := List.perm_append_comm.trans (List.Perm.of_eq (List.take_append_drop k hs))
theorem rev_step2 {hs : List Wop} {k : Nat} (hk : k - 1 < hs.length) (h0 : 1 ≤ k) : (hs.drop k).reverse ++ [hs[k - 1]] = (hs.drop (k - 1)).reverse := by
 have := rev_step hk
 rwa [show k - 1 + 1 = k by omega] at this
set_option maxHeartbeats 4000000 in
theorem turns_spec {S : Nat → Prop} {w : World} {hs : List Wop} {a : Option Addr} {c : Nat} (h : (Shape.slice wopS).rep S w [.slice a hs.length c] hs) (at_ : Int) (hhb : hs.length ≤ 1048576) (hsz : szH hs) (hq : (Fz tabsQ).p S w) :
 Calls Tryd.prog 4 #[.slice a hs.length c, .I at_] w (Ret fun v w' => Ext w w' ∧ v = .bool true) := by
 have hlen := Shape.slice_len h
 obtain ⟨au, hau, hau2⟩ := wrapU64_nat at_
 refine qS (fn := Tryd.f4) (n := 82) (σ := [(0, .slice a hs.length c), (1, .I at_)]) Tryd.func4 ?_
 have H := Hp.startF (w := w) (S := S) (G := [Rp (Shape.slice wopS) [.slice a hs.length c] hs, Fz tabsQ]) (.rp h (.cons hq .nil))
 refine qR 3 [.c [1, 0], .c [2]] [(0, .slice a hs.length c), (1, .I at_)] ?_
 refine qG (sq 0 7) ?_
 refine qP 1 (sq 1 7) [(0, .slice a hs.length c), (1, .I at_), (15, .slice a hs.length c)] ?_
 refine qK .seq (some 16) (sq 2 7) 7 #[.slice a hs.length c] (legal_spec (hs := hs) (H.rp 0 rfl) (hsz) (H.fact 1 rfl)) ?_
 rintro _ w1 hE2 ⟨bl3, el4, rfl, hj5⟩
 have H := H.ext hE2
 refine qF 5 [(0, .slice a hs.length c), (1, .I at_), (5, .bool bl3), (6, .I el4)] ?_
 refine qR 4 [.c [3, 0, 0], .c [3, 0, 1], .c [4]] [(0, .slice a hs.length c), (1, .I at_), (5, .bool bl3), (6, .I el4), (7, .slice none 0 0)] ?_
 refine qG (sq 0 4) ?_
 refine qP 2 (sq 2 4) [(0, .slice a hs.length c), (1, .I at_), (5, .bool bl3), (6, .I el4), (7, .slice none 0 0), (20, .I ((hs.length : Nat) : Int))] ?_
 refine qI .seq 21 (sq 3 4) (((hs.length : Nat) : Int) - 1) ?_
 refine qF 1 [(0, .slice a hs.length c), (1, .I at_), (5, .bool bl3), (6, .I el4), (7, .slice none 0 0), (8, .I (((hs.length : Nat) : Int) - 1))] ?_
 refine qR 1 [.c [3, 0, 1, 0], .b 0, .c [4]] [(0, .slice a hs.length c), (1, .I at_), (5, .bool bl3), (6, .I el4), (7, .slice none 0 0), (8, .I (((hs.length : Nat) : Int) - 1))] ?_
 have H := H.ownNil wopS 33
 refine WK.loop (α := Nat × Option Addr × Nat × List Wop) (b := cd Tryd.prog 4 [3, 0, 1, 0, 0]) (by as_aux_lemma => kernel_rfl) (fun st_ => match st_ with | (k, a9, c9, rs) => [(0, .slice a hs.length c), (1, .I at_), (5, .bool bl3), (6, .I el4), (7, .slice a9 rs.length c9), (8, .I ((k : Int) - 1))]) (fun st_ w' => match st_ with | (k, a9, c9, rs) => Hp w S [] [] [⟨wopS, 33, .slice a9 rs.length c9, rs⟩] [Rp (Shape.slice wopS) [.slice a hs.length c] hs, Fz tabsQ] w' ∧ k ≤ hs.length ∧ rs = (hs.drop k).reverse) (fun st_ => match st_ with | (k, a9, c9, rs) => k) (hs.length, none, 0, ([] : List Wop)) ⟨H, Nat.le_refl _, by simp⟩ (rfl) ?_
 rintro ⟨k, a9, c9, rs⟩ w7 ⟨H, hinv0⟩ hback6
 refine qR 3 [.c [3, 0, 1, 0, 0, 0, 1], .c [3, 0, 1, 0, 0, 1], .l [3, 0, 1, 0, 0], .b 0, .c [4]] [(0, .slice a hs.length c), (1, .I at_), (5, .bool bl3), (6, .I el4), (7, .slice a9 rs.length c9), (8, .I ((k : Int) - 1)), (23, .bool (decide ((((k : Int) - 1) : Int) ≥ 0)))] ?_
 refine qD ((((k : Int) - 1) : Int) ≥ 0) (fun h8 => ?_) (fun h8 => ?_)
 ·
  have hk1 : k - 1 < hs.length := by omega
  have hk0 : 1 ≤ k := by omega
  refine qR 3 [.c [3, 0, 1, 0, 0, 1, 0, 0], .b 1, .c [3, 0, 1, 0, 0, 2], .l [3, 0, 1, 0, 0], .b 0, .c [4]] [(0, .slice a hs.length c), (1, .I at_), (5, .bool bl3), (6, .I el4), (7, .slice a9 rs.length c9), (8, .I ((k : Int) - 1))] ?_
  refine qG (sq 0 8) ?_
  refine qP 3 (sq 3 8) [(0, .slice a hs.length c), (1, .I at_), (5, .bool bl3), (6, .I el4), (7, .slice a9 rs.length c9), (8, .I ((k : Int) - 1)), (26, .slice a9 rs.length c9), (27, .slice a hs.length c), (28, .I ((k : Int) - 1))] ?_
  have hx9 : (k - 1) < hs.length := by omega
  refine qX .seq 29 (sq 4 8) 22 33 ((k : Int) - 1) wopS (hs[(k - 1)]) H 0 rfl (k - 1) (by omega) (List.getElem?_eq_getElem hx9) ?_
  intro b10 o11 es12 hr13 H
  obtain ⟨a4q14, k4q14, a6q14, k6q14, a7q14, k7q14, rfl, hf15, hf16, hf17, hf18, hf19, hf20, hf21, hf22, hf23, hf24⟩ := wop_open hr13
  have H := H.add (F := Rp SB [.slice a4q14 ((hs[(k - 1)]).data.length) k4q14] ((hs[(k - 1)]).data)) hf19
  have H := H.add (F := Rp SB [.slice a6q14 ((hs[(k - 1)]).answer.length) k6q14] ((hs[(k - 1)]).answer)) hf21
  have H := H.add (F := Rp (Shape.slice Shape.str) [.slice a7q14 ((hs[(k - 1)]).names.length) k7q14] ((hs[(k - 1)]).names)) hf22
  refine qL .seq 30 (sq 5 8) 33 b10 o11 0 (.agg #[.int .u64 ((hs[(k - 1)]).client), .int .u64 ((hs[(k - 1)]).seq), .I ((hs[(k - 1)]).kind), .string ((hs[(k - 1)]).key), .slice a4q14 ((hs[(k - 1)]).data.length) k4q14, .I ((hs[(k - 1)]).code), .slice a6q14 ((hs[(k - 1)]).answer.length) k6q14, .slice a7q14 ((hs[(k - 1)]).names.length) k7q14, .I ((hs[(k - 1)]).beg), .I ((hs[(k - 1)]).fin)]) (H.fc 3 rfl) ?_
  refine RW.new (κ := .seq) (d := some 31) (r := (sq 6 8)) (o := .cells #[.int .u64 ((hs[(k - 1)]).client), .int .u64 ((hs[(k - 1)]).seq), .I ((hs[(k - 1)]).kind), .string ((hs[(k - 1)]).key), .slice a4q14 ((hs[(k - 1)]).data.length) k4q14, .I ((hs[(k - 1)]).code), .slice a6q14 ((hs[(k - 1)]).answer.length) k6q14, .slice a7q14 ((hs[(k - 1)]).names.length) k7q14, .I ((hs[(k - 1)]).beg), .I ((hs[(k - 1)]).fin)] 33 (0, 0)) (v := fun b => .slice (some ⟨b, 0, none⟩) 1 1) (fun b => by as_aux_lemma => kernel_rfl) (nofun) H ?_
  intro b25 w26 H
  have H := H.freeze 0 rfl wopS ([(hs[(k - 1)])] : List Wop) 1 (by simp [maxLen]) (by first | exact Nat.le_refl _ | simp) (EsP.cons (c := [.int .u64 ((hs[(k - 1)]).client), .int .u64 ((hs[(k - 1)]).seq), .I ((hs[(k - 1)]).kind), .string ((hs[(k - 1)]).key), .slice a4q14 ((hs[(k - 1)]).data.length) k4q14, .I ((hs[(k - 1)]).code), .slice a6q14 ((hs[(k - 1)]).answer.length) k6q14, .slice a7q14 ((hs[(k - 1)]).names.length) k7q14, .I ((hs[(k - 1)]).beg), .I ((hs[(k - 1)]).fin)]) (wop_mk (l0 := [.int .u64 ((hs[(k - 1)]).client)]) (y0 := (hs[(k - 1)]).client) (l1 := [.int .u64 ((hs[(k - 1)]).seq)]) (y1 := (hs[(k - 1)]).seq) (l2 := [.I ((hs[(k - 1)]).kind)]) (y2 := (hs[(k - 1)]).kind) (l3 := [.string ((hs[(k - 1)]).key)]) (y3 := (hs[(k - 1)]).key) (l4 := [.slice a4q14 ((hs[(k - 1)]).data.length) k4q14]) (y4 := (hs[(k - 1)]).data) (l5 := [.I ((hs[(k - 1)]).code)]) (y5 := (hs[(k - 1)]).code) (l6 := [.slice a6q14 ((hs[(k - 1)]).answer.length) k6q14]) (y6 := (hs[(k - 1)]).answer) (l7 := [.slice a7q14 ((hs[(k - 1)]).names.length) k7q14]) (y7 := (hs[(k - 1)]).names) (l8 := [.I ((hs[(k - 1)]).beg)]) (y8 := (hs[(k - 1)]).beg) (l9 := [.I ((hs[(k - 1)]).fin)]) (y9 := (hs[(k - 1)]).fin) u64a u64a i64a ⟨rfl, by first | assumption | (simp [maxLen]; done) | decide⟩ (H.rp 2 rfl) i64a (H.rp 1 rfl) (H.rp 0 rfl) i64a i64a) EsP.nil)
  have H : Hp w S [] [] [⟨wopS, 33, .slice a9 rs.length c9, rs⟩] [Rp (Shape.slice wopS) [.slice (some ⟨b25, 0, none⟩) 1 1] ([(hs[(k - 1)])] : List Wop), Rp (Shape.slice Shape.str) [.slice a7q14 ((hs[(k - 1)]).names.length) k7q14] ((hs[(k - 1)]).names), Rp SB [.slice a6q14 ((hs[(k - 1)]).answer.length) k6q14] ((hs[(k - 1)]).answer), Rp SB [.slice a4q14 ((hs[(k - 1)]).data.length) k4q14] ((hs[(k - 1)]).data), Fc b10 o11 [.int .u64 ((hs[(k - 1)]).client), .int .u64 ((hs[(k - 1)]).seq), .I ((hs[(k - 1)]).kind), .string ((hs[(k - 1)]).key), .slice a4q14 ((hs[(k - 1)]).data.length) k4q14, .I ((hs[(k - 1)]).code), .slice a6q14 ((hs[(k - 1)]).answer.length) k6q14, .slice a7q14 ((hs[(k - 1)]).names.length) k7q14, .I ((hs[(k - 1)]).beg), .I ((hs[(k - 1)]).fin)], Rp (Shape.slice wopS) [.slice a hs.length c] hs, Fz tabsQ] _ := H
  refine RW.appendW (d := some 32) (r := (sq 7 8)) (T := 22) (ty := 22) (e := 33) (m := 10) (by_ := 136) (v := .slice a9 rs.length c9) (a2 := (some ⟨b25, 0, none⟩)) (l2 := 1) (c2 := 1) (zs := rs ++ [hs[k - 1]]) (by as_aux_lemma => kernel_rfl) (by as_aux_lemma => kernel_rfl) rfl H 0 rfl 0 rfl (rfl) (by rw [List.length_append, hinv0.2, List.length_reverse, List.length_drop]; simp only [List.length_cons, List.length_nil]; omega) ?_
  intro a27 c28 w30 H hc29
  have H : Hp w S [] [] [⟨wopS, 33, .slice a27 (rs ++ [hs[k - 1]]).length c28, rs ++ [hs[k - 1]]⟩] [Rp (Shape.slice wopS) [.slice (some ⟨b25, 0, none⟩) 1 1] ([(hs[(k - 1)])] : List Wop), Rp (Shape.slice Shape.str) [.slice a7q14 ((hs[(k - 1)]).names.length) k7q14] ((hs[(k - 1)]).names), Rp SB [.slice a6q14 ((hs[(k - 1)]).answer.length) k6q14] ((hs[(k - 1)]).answer), Rp SB [.slice a4q14 ((hs[(k - 1)]).data.length) k4q14] ((hs[(k - 1)]).data), Fc b10 o11 [.int .u64 ((hs[(k - 1)]).client), .int .u64 ((hs[(k - 1)]).seq), .I ((hs[(k - 1)]).kind), .string ((hs[(k - 1)]).key), .slice a4q14 ((hs[(k - 1)]).data.length) k4q14, .I ((hs[(k - 1)]).code), .slice a6q14 ((hs[(k - 1)]).answer.length) k6q14, .slice a7q14 ((hs[(k - 1)]).names.length) k7q14, .I ((hs[(k - 1)]).beg), .I ((hs[(k - 1)]).fin)], Rp (Shape.slice wopS) [.slice a hs.length c] hs, Fz tabsQ] _ := H
  refine qF 1 [(0, .slice a hs.length c), (1, .I at_), (5, .bool bl3), (6, .I el4), (7, .slice a27 (rs ++ [hs[k - 1]]).length c28), (8, .I ((k : Int) - 1))] ?_
  refine qR 1 [.c [3, 0, 1, 0, 0, 2], .l [3, 0, 1, 0, 0], .b 0, .c [4]] [(0, .slice a hs.length c), (1, .I at_), (5, .bool bl3), (6, .I el4), (7, .slice a27 (rs ++ [hs[k - 1]]).length c28), (8, .I ((k : Int) - 1))] ?_
  refine qG (sq 0 3) ?_
  refine qP 1 (sq 1 3) [(0, .slice a hs.length c), (1, .I at_), (5, .bool bl3), (6, .I el4), (7, .slice a27 (rs ++ [hs[k - 1]]).length c28), (8, .I ((k : Int) - 1)), (24, .I ((k : Int) - 1))] ?_
  refine qI .seq 25 (sq 2 3) (((k : Int) - 1) - 1) ?_
  refine qF 1 [(0, .slice a hs.length c), (1, .I at_), (5, .bool bl3), (6, .I el4), (7, .slice a27 (rs ++ [hs[k - 1]]).length c28), (8, .I (((k : Int) - 1) - 1))] ?_
  rw [show (k : Int) - 1 - 1 = ((k - 1 : Nat) : Int) - 1 by omega]
  have H := H.pick [5, 6] rfl
  exact WK.back (hback6 (k - 1, a27, c28, rs ++ [hs[k - 1]]) _ ⟨H, by omega, by rw [hinv0.2]; exact rev_step2 hk1 hk0⟩ (by first | omega | (simp only []; omega))) (by as_aux_lemma => kernel_rfl)
 ·
  obtain rfl : k = 0 := by omega
  obtain rfl : rs = hs.reverse := by simpa using hinv0.2
  refine qR 2 [.c [4, 0], .c [5]] [(0, .slice a hs.length c), (1, .I at_), (5, .bool bl3), (6, .I el4), (7, .slice a9 hs.reverse.length c9)] ?_
  refine qG (sq 0 7) ?_
  refine qP 1 (sq 1 7) [(0, .slice a hs.length c), (1, .I at_), (5, .bool bl3), (6, .I el4), (34, .slice a9 hs.reverse.length c9)] ?_
  have H : Hp w S [] [] [] [Rp (Shape.slice wopS) [.slice a9 hs.reverse.length c9] hs.reverse, Rp (Shape.slice wopS) [.slice a hs.length c] hs, Fz tabsQ] _ := H.freezeW 0 rfl
  refine qK .seq (some 35) (sq 2 7) 7 #[.slice a9 hs.reverse.length c9] (legal_spec (hs := hs.reverse) (H.rp 0 rfl) (szH_sub (fun x hx => List.mem_reverse.1 hx) hsz) (H.fact 2 rfl)) ?_
  rintro _ w31 hE32 ⟨bl33, el34, rfl, hj35⟩
  have H := H.ext hE32
  refine qF 5 [(0, .slice a hs.length c), (1, .I at_), (5, .bool bl3), (6, .I el4), (9, .bool bl33), (10, .I el34)] ?_
  refine qR 5 [.c [6, 0, 1], .c [7]] [(0, .slice a hs.length c), (1, .I at_), (5, .bool bl3), (6, .I el4), (9, .bool bl33), (10, .I el34), (11, .I 0), (40, .bool (decide ((((hs.length : Nat) : Int) : Int) > 0)))] ?_
  refine WK.joinV (α := Nat) (fun x_ w_ => match x_ with | kk => Hp w S [] [] [] [Rp (Shape.slice wopS) [.slice a9 hs.reverse.length c9] hs.reverse, Rp (Shape.slice wopS) [.slice a hs.length c] hs, Fz tabsQ] w_ ∧ kk ≤ hs.length) (fun x_ => match x_ with | kk => [(0, .slice a hs.length c), (5, .bool bl3), (6, .I el4), (9, .bool bl33), (10, .I el34), (11, .I kk)]) [Cq Tryd.prog 4 [7]] (fun hJ36 => ?_) ?_
  ·
   refine qD ((((hs.length : Nat) : Int) : Int) > 0) (fun h38 => ?_) (fun h38 => ?_)
   ·
    obtain ⟨kx, hkx, hkx2⟩ := rem_ex au (show 0 < hs.length by omega)
    refine qG (sq 0 8) ?_
    refine qP 1 (sq 1 8) [(0, .slice a hs.length c), (5, .bool bl3), (6, .I el4), (9, .bool bl33), (10, .I el34), (11, .I 0), (41, .I at_)] ?_
    refine RW.pv (κ := .seq) (d := some 42) (r := (sq 2 8)) (v' := .int .u64 (au : Int)) (v := .int .u64 (IntKind.u64.wrap (at_))) (by as_aux_lemma => kernel_rfl) (by rw [hau]) ?_
    refine qP 2 (sq 4 8) [(0, .slice a hs.length c), (5, .bool bl3), (6, .I el4), (9, .bool bl33), (10, .I el34), (11, .I 0), (42, .int .u64 (au : Int)), (44, .I ((hs.length : Nat) : Int))] ?_
    refine RW.pv (κ := .seq) (d := some 45) (r := (sq 5 8)) (v := .int .u64 (IntKind.u64.wrap (((hs.length : Nat) : Int)))) (v' := .int .u64 (((hs.length : Nat) : Int))) (by as_aux_lemma => kernel_rfl) (wr_u64 (by omega)) ?_
    refine RW.readS (κ := .seq) (d := some 46) (r := (sq 6 8)) (s := semV (Op.intDiv .rem .u64 (au : Int) ((hs.length : Nat) : Int))) (v := .int .u64 (kx : Int)) (by as_aux_lemma => kernel_rfl) (fun w' _ => semV_run (remU_nat (r := kx) (by omega) (by omega) (hkx))) ?_
    refine RW.pv (κ := .seq) (d := some 47) (r := (sq 7 8)) (v := .I (IntKind.i64.wrap ((kx : Int)))) (v' := .I ((kx : Int))) (by as_aux_lemma => kernel_rfl) (wr_i64 (by omega)) ?_
    refine qF 1 [(0, .slice a hs.length c), (5, .bool bl3), (6, .I el4), (9, .bool bl33), (10, .I el34), (11, .I kx)] ?_
    exact hJ36 (kx) _ ⟨H, by omega⟩
   ·
    refine qR 1 [.c [7]] [(0, .slice a hs.length c), (5, .bool bl3), (6, .I el4), (9, .bool bl33), (10, .I el34), (11, .I 0)] ?_
    exact hJ36 (0) _ ⟨H, by omega⟩
  ·
   rintro kk w37 ⟨H, hkk⟩
   refine qR 1 [.c [7, 0], .c [8]] [(0, .slice a hs.length c), (5, .bool bl3), (6, .I el4), (9, .bool bl33), (10, .I el34), (11, .I kk)] ?_
   refine WK.joinV (α := Bool × Int) (fun x_ w_ => match x_ with | (bc, ec) => Hp w S [] [] [] [Rp (Shape.slice wopS) [.slice a9 hs.reverse.length c9] hs.reverse, Rp (Shape.slice wopS) [.slice a hs.length c] hs, Fz tabsQ] w_ ∧ judged (hs.drop kk ++ hs.take kk) bc ec) (fun x_ => match x_ with | (bc, ec) => [(5, .bool bl3), (6, .I el4), (9, .bool bl33), (10, .I el34), (12, .bool bc), (13, .I ec)]) [Cq Tryd.prog 4 [8]] (fun hJ39 => ?_) ?_
   ·
    refine WK.drawO1 [1, 2, 5, 6] [(55, .I kk), (54, .slice a hs.length c), (51, .I kk), (50, .slice a hs.length c), (0, .slice a hs.length c), (5, .bool bl3), (6, .I el4), (9, .bool bl33), (10, .I el34), (11, .I kk)] (.node [] (.cons 0 (.node [] (.cons 3 (.node [] (.cons 4 (.node [(7, .seq), (8, .seq), (9, .seq), (10, .seq)] (.cons 11 (.node [] (.cons 12 (.leaf [(13, .seq), (14, .seq)]) (.cons 13 (.leaf [(12, .seq), (14, .seq)]) .nil))) (.cons 12 (.leaf [(11, .seq), (13, .seq), (14, .seq)]) .nil))) (.cons 7 (.node [(4, .seq), (8, .seq), (9, .seq), (10, .seq)] (.cons 11 (.node [] (.cons 12 (.leaf [(13, .seq), (14, .seq)]) (.cons 13 (.leaf [(12, .seq), (14, .seq)]) .nil))) (.cons 12 (.leaf [(11, .seq), (13, .seq), (14, .seq)]) .nil))) .nil))) (.cons 7 (.node [(3, .seq), (4, .seq), (8, .seq), (9, .seq), (10, .seq)] (.cons 11 (.node [] (.cons 12 (.leaf [(13, .seq), (14, .seq)]) (.cons 13 (.leaf [(12, .seq), (14, .seq)]) .nil))) (.cons 12 (.leaf [(11, .seq), (13, .seq), (14, .seq)]) .nil))) .nil))) (.cons 3 (.node [] (.cons 0 (.node [] (.cons 4 (.node [(7, .seq), (8, .seq), (9, .seq), (10, .seq)] (.cons 11 (.node [] (.cons 12 (.leaf [(13, .seq), (14, .seq)]) (.cons 13 (.leaf [(12, .seq), (14, .seq)]) .nil))) (.cons 12 (.leaf [(11, .seq), (13, .seq), (14, .seq)]) .nil))) (.cons 7 (.node [(4, .seq), (8, .seq), (9, .seq), (10, .seq)] (.cons 11 (.node [] (.cons 12 (.leaf [(13, .seq), (14, .seq)]) (.cons 13 (.leaf [(12, .seq), (14, .seq)]) .nil))) (.cons 12 (.leaf [(11, .seq), (13, .seq), (14, .seq)]) .nil))) .nil))) (.cons 7 (.node [(0, .seq), (4, .seq), (8, .seq), (9, .seq), (10, .seq)] (.cons 11 (.node [] (.cons 12 (.leaf [(13, .seq), (14, .seq)]) (.cons 13 (.leaf [(12, .seq), (14, .seq)]) .nil))) (.cons 12 (.leaf [(11, .seq), (13, .seq), (14, .seq)]) .nil))) .nil))) (.cons 7 (.node [] (.cons 0 (.node [(3, .seq), (4, .seq), (8, .seq), (9, .seq), (10, .seq)] (.cons 11 (.node [] (.cons 12 (.leaf [(13, .seq), (14, .seq)]) (.cons 13 (.leaf [(12, .seq), (14, .seq)]) .nil))) (.cons 12 (.leaf [(11, .seq), (13, .seq), (14, .seq)]) .nil))) (.cons 3 (.node [(0, .seq), (4, .seq), (8, .seq), (9, .seq), (10, .seq)] (.cons 11 (.node [] (.cons 12 (.leaf [(13, .seq), (14, .seq)]) (.cons 13 (.leaf [(12, .seq), (14, .seq)]) .nil))) (.cons 12 (.leaf [(11, .seq), (13, .seq), (14, .seq)]) .nil))) .nil))) .nil)))) Tryd_mixed (by as_aux_lemma => kernel_rfl) (by as_aux_lemma => kernel_rfl) (by as_aux_lemma => kernel_rfl) ?_
    have H := H.draw
    generalize ({ w37 with drawn := w37.drawn + 1 } : World) = w41 at H ⊢
    refine RO.node' [] (by as_aux_lemma => kernel_rfl) ?_
    refine RO.fin 0 [5, 6, 9, 10, 50, 51, 54, 55] [(5, .bool bl3), (6, .I el4), (9, .bool bl33), (10, .I el34), (50, .slice a hs.length c), (51, .I kk), (54, .slice a hs.length c), (55, .I kk)] (by as_aux_lemma => kernel_rfl) ?_
    refine (ROB.cons' ?_ (ROB.cons' ?_ (ROB.cons' ?_ ROB.nil')))
    ·
     refine RO.node' [(0, .seq)] (by as_aux_lemma => kernel_rfl) ?_
     refine RW.new (κ := .seq) (d := some 49) (r := []) (o := .cells #[] 33 (0, 0)) (v := fun b => .slice (some ⟨b, 0, none⟩) 0 0) (fun b => by as_aux_lemma => kernel_rfl) (nofun) H ?_
     intro b42 w43 H
     refine RO.fin 0 [5, 6, 9, 10, 49, 50, 51, 54, 55] [(5, .bool bl3), (6, .I el4), (9, .bool bl33), (10, .I el34), (49, .slice (some ⟨b42, 0, none⟩) 0 0), (50, .slice a hs.length c), (51, .I kk), (54, .slice a hs.length c), (55, .I kk)] (by as_aux_lemma => kernel_rfl) ?_
     refine (ROB.cons' ?_ (ROB.cons' ?_ ROB.nil'))
     ·
      refine RO.node' [(3, .seq)] (by as_aux_lemma => kernel_rfl) ?_
      refine RW.slice (κ := .seq) (d := some 52) (r := []) (T := 22) (e := 33) (sh := wopS) (a := a) (len := hs.length) (cap := c) (zs := (hs.drop kk)) (lv := (some (.I kk))) (hv := none) (by as_aux_lemma => kernel_rfl) (by as_aux_lemma => kernel_rfl) H 1 rfl kk hs.length (.mk (by omega)) .nil (by omega) (by omega) (by rw [List.take_of_length_le (Nat.le_refl _)]) ?_
      intro a44 H
      refine RO.fin 0 [5, 6, 9, 10, 49, 52, 54, 55] [(5, .bool bl3), (6, .I el4), (9, .bool bl33), (10, .I el34), (49, .slice (some ⟨b42, 0, none⟩) 0 0), (52, .slice a44 (hs.drop kk).length (c - kk)), (54, .slice a hs.length c), (55, .I kk)] (by as_aux_lemma => kernel_rfl) ?_
      refine (ROB.cons' ?_ (ROB.cons' ?_ ROB.nil'))
      ·
       refine RO.node' [(4, .seq), (7, .seq), (8, .seq), (9, .seq), (10, .seq)] (by as_aux_lemma => kernel_rfl) ?_
       have H := H.toOwn (sh := wopS) (xs := []) (cap := 0) (by rfl) (Nat.le_refl _) (Nat.zero_le _) (by simp) EsP.nil
       have H : Hp w S [] [] [⟨wopS, 33, .slice (some ⟨b42, 0, none⟩) 0 0, []⟩] [Rp (Shape.slice wopS) [.slice a44 (hs.drop kk).length (c - kk)] (hs.drop kk), Rp (Shape.slice wopS) [.slice a9 hs.reverse.length c9] hs.reverse, Rp (Shape.slice wopS) [.slice a hs.length c] hs, Fz tabsQ] _ := H
       refine RW.appendW (d := some 53) (r := [(7, .seq), (8, .seq), (9, .seq), (10, .seq)]) (T := 22) (ty := 22) (e := 33) (m := 10) (by_ := 136) (v := .slice (some ⟨b42, 0, none⟩) 0 0) (a2 := a44) (l2 := (hs.drop kk).length) (c2 := (c - kk)) (zs := (hs.drop kk)) (by as_aux_lemma => kernel_rfl) (by as_aux_lemma => kernel_rfl) rfl H 0 rfl 0 rfl (rfl) (by rw [List.length_drop]; omega) ?_
       intro a45 c46 w48 H hc47
       have H : Hp w S [] [] [⟨wopS, 33, .slice a45 (hs.drop kk).length c46, (hs.drop kk)⟩] [Rp (Shape.slice wopS) [.slice a44 (hs.drop kk).length (c - kk)] (hs.drop kk), Rp (Shape.slice wopS) [.slice a9 hs.reverse.length c9] hs.reverse, Rp (Shape.slice wopS) [.slice a hs.length c] hs, Fz tabsQ] _ := H
       refine RW.slice (κ := .seq) (d := some 56) (r := [(8, .seq), (9, .seq), (10, .seq)]) (T := 22) (e := 33) (sh := wopS) (a := a) (len := hs.length) (cap := c) (zs := (hs.take kk)) (lv := none) (hv := (some (.I kk))) (by as_aux_lemma => kernel_rfl) (by as_aux_lemma => kernel_rfl) H 2 rfl 0 kk .nil (.mk (by omega)) (by omega) (by omega) (by rw [List.drop_zero]) ?_
       intro a49 H
       refine RW.appendW (d := some 57) (r := [(9, .seq), (10, .seq)]) (T := 22) (ty := 22) (e := 33) (m := 10) (by_ := 136) (v := .slice a45 (hs.drop kk).length c46) (a2 := a49) (l2 := (hs.take kk).length) (c2 := c) (zs := (hs.drop kk) ++ (hs.take kk)) (by as_aux_lemma => kernel_rfl) (by as_aux_lemma => kernel_rfl) rfl H 0 rfl 0 rfl (rfl) (by rw [List.length_append, List.length_drop, List.length_take]; omega) ?_
       intro a50 c51 w53 H hc52
       have H : Hp w S [] [] [⟨wopS, 33, .slice a50 (((hs.drop kk) ++ (hs.take kk)).length) c51, (hs.drop kk) ++ (hs.take kk)⟩] [Rp (Shape.slice wopS) [.slice a49 (hs.take kk).length c] (hs.take kk), Rp (Shape.slice wopS) [.slice a44 (hs.drop kk).length (c - kk)] (hs.drop kk), Rp (Shape.slice wopS) [.slice a9 hs.reverse.length c9] hs.reverse, Rp (Shape.slice wopS) [.slice a hs.length c] hs, Fz tabsQ] _ := H
       have H : Hp w S [] [] [] [Rp (Shape.slice wopS) [.slice a50 (((hs.drop kk) ++ (hs.take kk)).length) c51] ((hs.drop kk) ++ (hs.take kk)), Rp (Shape.slice wopS) [.slice a49 (hs.take kk).length c] (hs.take kk), Rp (Shape.slice wopS) [.slice a44 (hs.drop kk).length (c - kk)] (hs.drop kk), Rp (Shape.slice wopS) [.slice a9 hs.reverse.length c9] hs.reverse, Rp (Shape.slice wopS) [.slice a hs.length c] hs, Fz tabsQ] _ := H.freezeW 0 rfl
       refine qK .seq (some 58) [(10, .seq)] 7 #[.slice a50 (((hs.drop kk) ++ (hs.take kk)).length) c51] (legal_spec (hs := (hs.drop kk) ++ (hs.take kk)) (H.rp 0 rfl) (szH_sub (fun x hx => (rot_perm hs _).mem_iff.1 hx) hsz) (H.fact 5 rfl)) ?_
       rintro _ w54 hE55 ⟨bl56, el57, rfl, hj58⟩
       have H := H.ext hE55
       refine RO.fin 1 [5, 6, 9, 10, 48] [(5, .bool bl3), (6, .I el4), (9, .bool bl33), (10, .I el34), (48, .tuple #[.bool bl56, .I el57])] (by as_aux_lemma => kernel_rfl) ?_
       refine (ROB.cons' ?_ (ROB.cons' ?_ ROB.nil'))
       ·
        refine RO.node' [(11, .seq)] (by as_aux_lemma => kernel_rfl) ?_
        refine RO.fin 1 [5, 6, 9, 10, 48, 59] [(5, .bool bl3), (6, .I el4), (9, .bool bl33), (10, .I el34), (48, .tuple #[.bool bl56, .I el57]), (59, .bool bl56)] (by as_aux_lemma => kernel_rfl) ?_
        refine (ROB.cons' ?_ (ROB.cons' ?_ ROB.nil'))
        ·
         refine RO.leaf' [(12, .seq), (13, .seq), (14, .seq)] (by as_aux_lemma => kernel_rfl) ?_
         refine qF 3 [(5, .bool bl3), (6, .I el4), (9, .bool bl33), (10, .I el34), (12, .bool bl56), (13, .I el57)] ?_
         have H := H.pick [3, 4, 5] rfl
         exact hJ39 (bl56, el57) _ ⟨H, hj58⟩
        ·
         refine RO.leaf' [(13, .seq), (12, .seq), (14, .seq)] (by as_aux_lemma => kernel_rfl) ?_
         refine qF 3 [(5, .bool bl3), (6, .I el4), (9, .bool bl33), (10, .I el34), (12, .bool bl56), (13, .I el57)] ?_
         have H := H.pick [3, 4, 5] rfl
         exact hJ39 (bl56, el57) _ ⟨H, hj58⟩
       ·
        refine RO.leaf' [(12, .seq), (11, .seq), (13, .seq), (14, .seq)] (by as_aux_lemma => kernel_rfl) ?_
        refine qF 4 [(5, .bool bl3), (6, .I el4), (9, .bool bl33), (10, .I el34), (12, .bool bl56), (13, .I el57)] ?_
        have H := H.pick [3, 4, 5] rfl
        exact hJ39 (bl56, el57) _ ⟨H, hj58⟩
      ·
       refine RO.node' [(7, .seq), (4, .seq), (8, .seq), (9, .seq), (10, .seq)] (by as_aux_lemma => kernel_rfl) ?_
       refine RW.slice (κ := .seq) (d := some 56) (r := [(4, .seq), (8, .seq), (9, .seq), (10, .seq)]) (T := 22) (e := 33) (sh := wopS) (a := a) (len := hs.length) (cap := c) (zs := (hs.take kk)) (lv := none) (hv := (some (.I kk))) (by as_aux_lemma => kernel_rfl) (by as_aux_lemma => kernel_rfl) H 2 rfl 0 kk .nil (.mk (by omega)) (by omega) (by omega) (by rw [List.drop_zero]) ?_
       intro a59 H
       have H := H.toOwn (sh := wopS) (xs := []) (cap := 0) (by rfl) (Nat.le_refl _) (Nat.zero_le _) (by simp) EsP.nil
       have H : Hp w S [] [] [⟨wopS, 33, .slice (some ⟨b42, 0, none⟩) 0 0, []⟩] [Rp (Shape.slice wopS) [.slice a59 (hs.take kk).length c] (hs.take kk), Rp (Shape.slice wopS) [.slice a44 (hs.drop kk).length (c - kk)] (hs.drop kk), Rp (Shape.slice wopS) [.slice a9 hs.reverse.length c9] hs.reverse, Rp (Shape.slice wopS) [.slice a hs.length c] hs, Fz tabsQ] _ := H
       refine RW.appendW (d := some 53) (r := [(8, .seq), (9, .seq), (10, .seq)]) (T := 22) (ty := 22) (e := 33) (m := 10) (by_ := 136) (v := .slice (some ⟨b42, 0, none⟩) 0 0) (a2 := a44) (l2 := (hs.drop kk).length) (c2 := (c - kk)) (zs := (hs.drop kk)) (by as_aux_lemma => kernel_rfl) (by as_aux_lemma => kernel_rfl) rfl H 0 rfl 1 rfl (rfl) (by rw [List.length_drop]; omega) ?_
       intro a60 c61 w63 H hc62
       have H : Hp w S [] [] [⟨wopS, 33, .slice a60 (hs.drop kk).length c61, (hs.drop kk)⟩] [Rp (Shape.slice wopS) [.slice a59 (hs.take kk).length c] (hs.take kk), Rp (Shape.slice wopS) [.slice a44 (hs.drop kk).length (c - kk)] (hs.drop kk), Rp (Shape.slice wopS) [.slice a9 hs.reverse.length c9] hs.reverse, Rp (Shape.slice wopS) [.slice a hs.length c] hs, Fz tabsQ] _ := H
       refine RW.appendW (d := some 57) (r := [(9, .seq), (10, .seq)]) (T := 22) (ty := 22) (e := 33) (m := 10) (by_ := 136) (v := .slice a60 (hs.drop kk).length c61) (a2 := a59) (l2 := (hs.take kk).length) (c2 := c) (zs := (hs.drop kk) ++ (hs.take kk)) (by as_aux_lemma => kernel_rfl) (by as_aux_lemma => kernel_rfl) rfl H 0 rfl 0 rfl (rfl) (by rw [List.length_append, List.length_drop, List.length_take]; omega) ?_
       intro a64 c65 w67 H hc66
       have H : Hp w S [] [] [⟨wopS, 33, .slice a64 (((hs.drop kk) ++ (hs.take kk)).length) c65, (hs.drop kk) ++ (hs.take kk)⟩] [Rp (Shape.slice wopS) [.slice a59 (hs.take kk).length c] (hs.take kk), Rp (Shape.slice wopS) [.slice a44 (hs.drop kk).length (c - kk)] (hs.drop kk), Rp (Shape.slice wopS) [.slice a9 hs.reverse.length c9] hs.reverse, Rp (Shape.slice wopS) [.slice a hs.length c] hs, Fz tabsQ] _ := H
       have H : Hp w S [] [] [] [Rp (Shape.slice wopS) [.slice a64 (((hs.drop kk) ++ (hs.take kk)).length) c65] ((hs.drop kk) ++ (hs.take kk)), Rp (Shape.slice wopS) [.slice a59 (hs.take kk).length c] (hs.take kk), Rp (Shape.slice wopS) [.slice a44 (hs.drop kk).length (c - kk)] (hs.drop kk), Rp (Shape.slice wopS) [.slice a9 hs.reverse.length c9] hs.reverse, Rp (Shape.slice wopS) [.slice a hs.length c] hs, Fz tabsQ] _ := H.freezeW 0 rfl
       refine qK .seq (some 58) [(10, .seq)] 7 #[.slice a64 (((hs.drop kk) ++ (hs.take kk)).length) c65] (legal_spec (hs := (hs.drop kk) ++ (hs.take kk)) (H.rp 0 rfl) (szH_sub (fun x hx => (rot_perm hs _).mem_iff.1 hx) hsz) (H.fact 5 rfl)) ?_
       rintro _ w68 hE69 ⟨bl70, el71, rfl, hj72⟩
       have H := H.ext hE69
       refine RO.fin 1 [5, 6, 9, 10, 48] [(5, .bool bl3), (6, .I el4), (9, .bool bl33), (10, .I el34), (48, .tuple #[.bool bl70, .I el71])] (by as_aux_lemma => kernel_rfl) ?_
       refine (ROB.cons' ?_ (ROB.cons' ?_ ROB.nil'))
       ·
        refine RO.node' [(11, .seq)] (by as_aux_lemma => kernel_rfl) ?_
        refine RO.fin 1 [5, 6, 9, 10, 48, 59] [(5, .bool bl3), (6, .I el4), (9, .bool bl33), (10, .I el34), (48, .tuple #[.bool bl70, .I el71]), (59, .bool bl70)] (by as_aux_lemma => kernel_rfl) ?_
        refine (ROB.cons' ?_ (ROB.cons' ?_ ROB.nil'))
        ·
         refine RO.leaf' [(12, .seq), (13, .seq), (14, .seq)] (by as_aux_lemma => kernel_rfl) ?_
         refine qF 3 [(5, .bool bl3), (6, .I el4), (9, .bool bl33), (10, .I el34), (12, .bool bl70), (13, .I el71)] ?_
         have H := H.pick [3, 4, 5] rfl
         exact hJ39 (bl70, el71) _ ⟨H, hj72⟩
        ·
         refine RO.leaf' [(13, .seq), (12, .seq), (14, .seq)] (by as_aux_lemma => kernel_rfl) ?_
         refine qF 3 [(5, .bool bl3), (6, .I el4), (9, .bool bl33), (10, .I el34), (12, .bool bl70), (13, .I el71)] ?_
         have H := H.pick [3, 4, 5] rfl
         exact hJ39 (bl70, el71) _ ⟨H, hj72⟩
       ·
        refine RO.leaf' [(12, .seq), (11, .seq), (13, .seq), (14, .seq)] (by as_aux_lemma => kernel_rfl) ?_
        refine qF 4 [(5, .bool bl3), (6, .I el4), (9, .bool bl33), (10, .I el34), (12, .bool bl70), (13, .I el71)] ?_
        have H := H.pick [3, 4, 5] rfl
        exact hJ39 (bl70, el71) _ ⟨H, hj72⟩
     ·
      refine RO.node' [(7, .seq), (3, .seq), (4, .seq), (8, .seq), (9, .seq), (10, .seq)] (by as_aux_lemma => kernel_rfl) ?_
      refine RW.slice (κ := .seq) (d := some 56) (r := [(3, .seq), (4, .seq), (8, .seq), (9, .seq), (10, .seq)]) (T := 22) (e := 33) (sh := wopS) (a := a) (len := hs.length) (cap := c) (zs := (hs.take kk)) (lv := none) (hv := (some (.I kk))) (by as_aux_lemma => kernel_rfl) (by as_aux_lemma => kernel_rfl) H 1 rfl 0 kk .nil (.mk (by omega)) (by omega) (by omega) (by rw [List.drop_zero]) ?_
      intro a73 H
      refine RW.slice (κ := .seq) (d := some 52) (r := [(4, .seq), (8, .seq), (9, .seq), (10, .seq)]) (T := 22) (e := 33) (sh := wopS) (a := a) (len := hs.length) (cap := c) (zs := (hs.drop kk)) (lv := (some (.I kk))) (hv := none) (by as_aux_lemma => kernel_rfl) (by as_aux_lemma => kernel_rfl) H 2 rfl kk hs.length (.mk (by omega)) .nil (by omega) (by omega) (by rw [List.take_of_length_le (Nat.le_refl _)]) ?_
      intro a74 H
      have H := H.toOwn (sh := wopS) (xs := []) (cap := 0) (by rfl) (Nat.le_refl _) (Nat.zero_le _) (by simp) EsP.nil
      have H : Hp w S [] [] [⟨wopS, 33, .slice (some ⟨b42, 0, none⟩) 0 0, []⟩] [Rp (Shape.slice wopS) [.slice a74 (hs.drop kk).length (c - kk)] (hs.drop kk), Rp (Shape.slice wopS) [.slice a73 (hs.take kk).length c] (hs.take kk), Rp (Shape.slice wopS) [.slice a9 hs.reverse.length c9] hs.reverse, Rp (Shape.slice wopS) [.slice a hs.length c] hs, Fz tabsQ] _ := H
      refine RW.appendW (d := some 53) (r := [(8, .seq), (9, .seq), (10, .seq)]) (T := 22) (ty := 22) (e := 33) (m := 10) (by_ := 136) (v := .slice (some ⟨b42, 0, none⟩) 0 0) (a2 := a74) (l2 := (hs.drop kk).length) (c2 := (c - kk)) (zs := (hs.drop kk)) (by as_aux_lemma => kernel_rfl) (by as_aux_lemma => kernel_rfl) rfl H 0 rfl 0 rfl (rfl) (by rw [List.length_drop]; omega) ?_
      intro a75 c76 w78 H hc77
      have H : Hp w S [] [] [⟨wopS, 33, .slice a75 (hs.drop kk).length c76, (hs.drop kk)⟩] [Rp (Shape.slice wopS) [.slice a74 (hs.drop kk).length (c - kk)] (hs.drop kk), Rp (Shape.slice wopS) [.slice a73 (hs.take kk).length c] (hs.take kk), Rp (Shape.slice wopS) [.slice a9 hs.reverse.length c9] hs.reverse, Rp (Shape.slice wopS) [.slice a hs.length c] hs, Fz tabsQ] _ := H
      refine RW.appendW (d := some 57) (r := [(9, .seq), (10, .seq)]) (T := 22) (ty := 22) (e := 33) (m := 10) (by_ := 136) (v := .slice a75 (hs.drop kk).length c76) (a2 := a73) (l2 := (hs.take kk).length) (c2 := c) (zs := (hs.drop kk) ++ (hs.take kk)) (by as_aux_lemma => kernel_rfl) (by as_aux_lemma => kernel_rfl) rfl H 0 rfl 1 rfl (rfl) (by rw [List.length_append, List.length_drop, List.length_take]; omega) ?_
      intro a79 c80 w82 H hc81
      have H : Hp w S [] [] [⟨wopS, 33, .slice a79 (((hs.drop kk) ++ (hs.take kk)).length) c80, (hs.drop kk) ++ (hs.take kk)⟩] [Rp (Shape.slice wopS) [.slice a74 (hs.drop kk).length (c - kk)] (hs.drop kk), Rp (Shape.slice wopS) [.slice a73 (hs.take kk).length c] (hs.take kk), Rp (Shape.slice wopS) [.slice a9 hs.reverse.length c9] hs.reverse, Rp (Shape.slice wopS) [.slice a hs.length c] hs, Fz tabsQ] _ := H
      have H : Hp w S [] [] [] [Rp (Shape.slice wopS) [.slice a79 (((hs.drop kk) ++ (hs.take kk)).length) c80] ((hs.drop kk) ++ (hs.take kk)), Rp (Shape.slice wopS) [.slice a74 (hs.drop kk).length (c - kk)] (hs.drop kk), Rp (Shape.slice wopS) [.slice a73 (hs.take kk).length c] (hs.take kk), Rp (Shape.slice wopS) [.slice a9 hs.reverse.length c9] hs.reverse, Rp (Shape.slice wopS) [.slice a hs.length c] hs, Fz tabsQ] _ := H.freezeW 0 rfl
      refine qK .seq (some 58) [(10, .seq)] 7 #[.slice a79 (((hs.drop kk) ++ (hs.take kk)).length) c80] (legal_spec (hs := (hs.drop kk) ++ (hs.take kk)) (H.rp 0 rfl) (szH_sub (fun x hx => (rot_perm hs _).mem_iff.1 hx) hsz) (H.fact 5 rfl)) ?_
      rintro _ w83 hE84 ⟨bl85, el86, rfl, hj87⟩
      have H := H.ext hE84
      refine RO.fin 1 [5, 6, 9, 10, 48] [(5, .bool bl3), (6, .I el4), (9, .bool bl33), (10, .I el34), (48, .tuple #[.bool bl85, .I el86])] (by as_aux_lemma => kernel_rfl) ?_
      refine (ROB.cons' ?_ (ROB.cons' ?_ ROB.nil'))
      ·
       refine RO.node' [(11, .seq)] (by as_aux_lemma => kernel_rfl) ?_
       refine RO.fin 1 [5, 6, 9, 10, 48, 59] [(5, .bool bl3), (6, .I el4), (9, .bool bl33), (10, .I el34), (48, .tuple #[.bool bl85, .I el86]), (59, .bool bl85)] (by as_aux_lemma => kernel_rfl) ?_
       refine (ROB.cons' ?_ (ROB.cons' ?_ ROB.nil'))
       ·
        refine RO.leaf' [(12, .seq), (13, .seq), (14, .seq)] (by as_aux_lemma => kernel_rfl) ?_
        refine qF 3 [(5, .bool bl3), (6, .I el4), (9, .bool bl33), (10, .I el34), (12, .bool bl85), (13, .I el86)] ?_
        have H := H.pick [3, 4, 5] rfl
        exact hJ39 (bl85, el86) _ ⟨H, hj87⟩
       ·
        refine RO.leaf' [(13, .seq), (12, .seq), (14, .seq)] (by as_aux_lemma => kernel_rfl) ?_
        refine qF 3 [(5, .bool bl3), (6, .I el4), (9, .bool bl33), (10, .I el34), (12, .bool bl85), (13, .I el86)] ?_
        have H := H.pick [3, 4, 5] rfl
        exact hJ39 (bl85, el86) _ ⟨H, hj87⟩
      ·
       refine RO.leaf' [(12, .seq), (11, .seq), (13, .seq), (14, .seq)] (by as_aux_lemma => kernel_rfl) ?_
       refine qF 4 [(5, .bool bl3), (6, .I el4), (9, .bool bl33), (10, .I el34), (12, .bool bl85), (13, .I el86)] ?_
       have H := H.pick [3, 4, 5] rfl
       exact hJ39 (bl85, el86) _ ⟨H, hj87⟩
    ·
     refine RO.node' [(3, .seq)] (by as_aux_lemma => kernel_rfl) ?_
     refine RW.slice (κ := .seq) (d := some 52) (r := []) (T := 22) (e := 33) (sh := wopS) (a := a) (len := hs.length) (cap := c) (zs := (hs.drop kk)) (lv := (some (.I kk))) (hv := none) (by as_aux_lemma => kernel_rfl) (by as_aux_lemma => kernel_rfl) H 1 rfl kk hs.length (.mk (by omega)) .nil (by omega) (by omega) (by rw [List.take_of_length_le (Nat.le_refl _)]) ?_
     intro a88 H
     refine RO.fin 0 [5, 6, 9, 10, 52, 54, 55] [(5, .bool bl3), (6, .I el4), (9, .bool bl33), (10, .I el34), (52, .slice a88 (hs.drop kk).length (c - kk)), (54, .slice a hs.length c), (55, .I kk)] (by as_aux_lemma => kernel_rfl) ?_
     refine (ROB.cons' ?_ (ROB.cons' ?_ ROB.nil'))
     ·
      refine RO.node' [(0, .seq)] (by as_aux_lemma => kernel_rfl) ?_
      refine RW.new (κ := .seq) (d := some 49) (r := []) (o := .cells #[] 33 (0, 0)) (v := fun b => .slice (some ⟨b, 0, none⟩) 0 0) (fun b => by as_aux_lemma => kernel_rfl) (nofun) H ?_
      intro b89 w90 H
      refine RO.fin 0 [5, 6, 9, 10, 49, 52, 54, 55] [(5, .bool bl3), (6, .I el4), (9, .bool bl33), (10, .I el34), (49, .slice (some ⟨b89, 0, none⟩) 0 0), (52, .slice a88 (hs.drop kk).length (c - kk)), (54, .slice a hs.length c), (55, .I kk)] (by as_aux_lemma => kernel_rfl) ?_
      refine (ROB.cons' ?_ (ROB.cons' ?_ ROB.nil'))
      ·
       refine RO.node' [(4, .seq), (7, .seq), (8, .seq), (9, .seq), (10, .seq)] (by as_aux_lemma => kernel_rfl) ?_
       have H := H.toOwn (sh := wopS) (xs := []) (cap := 0) (by rfl) (Nat.le_refl _) (Nat.zero_le _) (by simp) EsP.nil
       have H : Hp w S [] [] [⟨wopS, 33, .slice (some ⟨b89, 0, none⟩) 0 0, []⟩] [Rp (Shape.slice wopS) [.slice a88 (hs.drop kk).length (c - kk)] (hs.drop kk), Rp (Shape.slice wopS) [.slice a9 hs.reverse.length c9] hs.reverse, Rp (Shape.slice wopS) [.slice a hs.length c] hs, Fz tabsQ] _ := H
       refine RW.appendW (d := some 53) (r := [(7, .seq), (8, .seq), (9, .seq), (10, .seq)]) (T := 22) (ty := 22) (e := 33) (m := 10) (by_ := 136) (v := .slice (some ⟨b89, 0, none⟩) 0 0) (a2 := a88) (l2 := (hs.drop kk).length) (c2 := (c - kk)) (zs := (hs.drop kk)) (by as_aux_lemma => kernel_rfl) (by as_aux_lemma => kernel_rfl) rfl H 0 rfl 0 rfl (rfl) (by rw [List.length_drop]; omega) ?_
       intro a91 c92 w94 H hc93
       have H : Hp w S [] [] [⟨wopS, 33, .slice a91 (hs.drop kk).length c92, (hs.drop kk)⟩] [Rp (Shape.slice wopS) [.slice a88 (hs.drop kk).length (c - kk)] (hs.drop kk), Rp (Shape.slice wopS) [.slice a9 hs.reverse.length c9] hs.reverse, Rp (Shape.slice wopS) [.slice a hs.length c] hs, Fz tabsQ] _ := H
       refine RW.slice (κ := .seq) (d := some 56) (r := [(8, .seq), (9, .seq), (10, .seq)]) (T := 22) (e := 33) (sh := wopS) (a := a) (len := hs.length) (cap := c) (zs := (hs.take kk)) (lv := none) (hv := (some (.I kk))) (by as_aux_lemma => kernel_rfl) (by as_aux_lemma => kernel_rfl) H 2 rfl 0 kk .nil (.mk (by omega)) (by omega) (by omega) (by rw [List.drop_zero]) ?_
       intro a95 H
       refine RW.appendW (d := some 57) (r := [(9, .seq), (10, .seq)]) (T := 22) (ty := 22) (e := 33) (m := 10) (by_ := 136) (v := .slice a91 (hs.drop kk).length c92) (a2 := a95) (l2 := (hs.take kk).length) (c2 := c) (zs := (hs.drop kk) ++ (hs.take kk)) (by as_aux_lemma => kernel_rfl) (by as_aux_lemma => kernel_rfl) rfl H 0 rfl 0 rfl (rfl) (by rw [List.length_append, List.length_drop, List.length_take]; omega) ?_
       intro a96 c97 w99 H hc98
       have H : Hp w S [] [] [⟨wopS, 33, .slice a96 (((hs.drop kk) ++ (hs.take kk)).length) c97, (hs.drop kk) ++ (hs.take kk)⟩] [Rp (Shape.slice wopS) [.slice a95 (hs.take kk).length c] (hs.take kk), Rp (Shape.slice wopS) [.slice a88 (hs.drop kk).length (c - kk)] (hs.drop kk), Rp (Shape.slice wopS) [.slice a9 hs.reverse.length c9] hs.reverse, Rp (Shape.slice wopS) [.slice a hs.length c] hs, Fz tabsQ] _ := H
       have H : Hp w S [] [] [] [Rp (Shape.slice wopS) [.slice a96 (((hs.drop kk) ++ (hs.take kk)).length) c97] ((hs.drop kk) ++ (hs.take kk)), Rp (Shape.slice wopS) [.slice a95 (hs.take kk).length c] (hs.take kk), Rp (Shape.slice wopS) [.slice a88 (hs.drop kk).length (c - kk)] (hs.drop kk), Rp (Shape.slice wopS) [.slice a9 hs.reverse.length c9] hs.reverse, Rp (Shape.slice wopS) [.slice a hs.length c] hs, Fz tabsQ] _ := H.freezeW 0 rfl
       refine qK .seq (some 58) [(10, .seq)] 7 #[.slice a96 (((hs.drop kk) ++ (hs.take kk)).length) c97] (legal_spec (hs := (hs.drop kk) ++ (hs.take kk)) (H.rp 0 rfl) (szH_sub (fun x hx => (rot_perm hs _).mem_iff.1 hx) hsz) (H.fact 5 rfl)) ?_
       rintro _ w100 hE101 ⟨bl102, el103, rfl, hj104⟩
       have H := H.ext hE101
       refine RO.fin 1 [5, 6, 9, 10, 48] [(5, .bool bl3), (6, .I el4), (9, .bool bl33), (10, .I el34), (48, .tuple #[.bool bl102, .I el103])] (by as_aux_lemma => kernel_rfl) ?_
       refine (ROB.cons' ?_ (ROB.cons' ?_ ROB.nil'))
       ·
        refine RO.node' [(11, .seq)] (by as_aux_lemma => kernel_rfl) ?_
        refine RO.fin 1 [5, 6, 9, 10, 48, 59] [(5, .bool bl3), (6, .I el4), (9, .bool bl33), (10, .I el34), (48, .tuple #[.bool bl102, .I el103]), (59, .bool bl102)] (by as_aux_lemma => kernel_rfl) ?_
        refine (ROB.cons' ?_ (ROB.cons' ?_ ROB.nil'))
        ·
         refine RO.leaf' [(12, .seq), (13, .seq), (14, .seq)] (by as_aux_lemma => kernel_rfl) ?_
         refine qF 3 [(5, .bool bl3), (6, .I el4), (9, .bool bl33), (10, .I el34), (12, .bool bl102), (13, .I el103)] ?_
         have H := H.pick [3, 4, 5] rfl
         exact hJ39 (bl102, el103) _ ⟨H, hj104⟩
        ·
         refine RO.leaf' [(13, .seq), (12, .seq), (14, .seq)] (by as_aux_lemma => kernel_rfl) ?_
         refine qF 3 [(5, .bool bl3), (6, .I el4), (9, .bool bl33), (10, .I el34), (12, .bool bl102), (13, .I el103)] ?_
         have H := H.pick [3, 4, 5] rfl
         exact hJ39 (bl102, el103) _ ⟨H, hj104⟩
       ·
        refine RO.leaf' [(12, .seq), (11, .seq), (13, .seq), (14, .seq)] (by as_aux_lemma => kernel_rfl) ?_
        refine qF 4 [(5, .bool bl3), (6, .I el4), (9, .bool bl33), (10, .I el34), (12, .bool bl102), (13, .I el103)] ?_
        have H := H.pick [3, 4, 5] rfl
        exact hJ39 (bl102, el103) _ ⟨H, hj104⟩
      ·
       refine RO.node' [(7, .seq), (4, .seq), (8, .seq), (9, .seq), (10, .seq)] (by as_aux_lemma => kernel_rfl) ?_
       refine RW.slice (κ := .seq) (d := some 56) (r := [(4, .seq), (8, .seq), (9, .seq), (10, .seq)]) (T := 22) (e := 33) (sh := wopS) (a := a) (len := hs.length) (cap := c) (zs := (hs.take kk)) (lv := none) (hv := (some (.I kk))) (by as_aux_lemma => kernel_rfl) (by as_aux_lemma => kernel_rfl) H 2 rfl 0 kk .nil (.mk (by omega)) (by omega) (by omega) (by rw [List.drop_zero]) ?_
       intro a105 H
       have H := H.toOwn (sh := wopS) (xs := []) (cap := 0) (by rfl) (Nat.le_refl _) (Nat.zero_le _) (by simp) EsP.nil
       have H : Hp w S [] [] [⟨wopS, 33, .slice (some ⟨b89, 0, none⟩) 0 0, []⟩] [Rp (Shape.slice wopS) [.slice a105 (hs.take kk).length c] (hs.take kk), Rp (Shape.slice wopS) [.slice a88 (hs.drop kk).length (c - kk)] (hs.drop kk), Rp (Shape.slice wopS) [.slice a9 hs.reverse.length c9] hs.reverse, Rp (Shape.slice wopS) [.slice a hs.length c] hs, Fz tabsQ] _ := H
       refine RW.appendW (d := some 53) (r := [(8, .seq), (9, .seq), (10, .seq)]) (T := 22) (ty := 22) (e := 33) (m := 10) (by_ := 136) (v := .slice (some ⟨b89, 0, none⟩) 0 0) (a2 := a88) (l2 := (hs.drop kk).length) (c2 := (c - kk)) (zs := (hs.drop kk)) (by as_aux_lemma => kernel_rfl) (by as_aux_lemma => kernel_rfl) rfl H 0 rfl 1 rfl (rfl) (by rw [List.length_drop]; omega) ?_
       intro a106 c107 w109 H hc108
       have H : Hp w S [] [] [⟨wopS, 33, .slice a106 (hs.drop kk).length c107, (hs.drop kk)⟩] [Rp (Shape.slice wopS) [.slice a105 (hs.take kk).length c] (hs.take kk), Rp (Shape.slice wopS) [.slice a88 (hs.drop kk).length (c - kk)] (hs.drop kk), Rp (Shape.slice wopS) [.slice a9 hs.reverse.length c9] hs.reverse, Rp (Shape.slice wopS) [.slice a hs.length c] hs, Fz tabsQ] _ := H
       refine RW.appendW (d := some 57) (r := [(9, .seq), (10, .seq)]) (T := 22) (ty := 22) (e := 33) (m := 10) (by_ := 136) (v := .slice a106 (hs.drop kk).length c107) (a2 := a105) (l2 := (hs.take kk).length) (c2 := c) (zs := (hs.drop kk) ++ (hs.take kk)) (by as_aux_lemma => kernel_rfl) (by as_aux_lemma => kernel_rfl) rfl H 0 rfl 0 rfl (rfl) (by rw [List.length_append, List.length_drop, List.length_take]; omega) ?_
       intro a110 c111 w113 H hc112
       have H : Hp w S [] [] [⟨wopS, 33, .slice a110 (((hs.drop kk) ++ (hs.take kk)).length) c111, (hs.drop kk) ++ (hs.take kk)⟩] [Rp (Shape.slice wopS) [.slice a105 (hs.take kk).length c] (hs.take kk), Rp (Shape.slice wopS) [.slice a88 (hs.drop kk).length (c - kk)] (hs.drop kk), Rp (Shape.slice wopS) [.slice a9 hs.reverse.length c9] hs.reverse, Rp (Shape.slice wopS) [.slice a hs.length c] hs, Fz tabsQ] _ := H
       have H : Hp w S [] [] [] [Rp (Shape.slice wopS) [.slice a110 (((hs.drop kk) ++ (hs.take kk)).length) c111] ((hs.drop kk) ++ (hs.take kk)), Rp (Shape.slice wopS) [.slice a105 (hs.take kk).length c] (hs.take kk), Rp (Shape.slice wopS) [.slice a88 (hs.drop kk).length (c - kk)] (hs.drop kk), Rp (Shape.slice wopS) [.slice a9 hs.reverse.length c9] hs.reverse, Rp (Shape.slice wopS) [.slice a hs.length c] hs, Fz tabsQ] _ := H.freezeW 0 rfl
       refine qK .seq (some 58) [(10, .seq)] 7 #[.slice a110 (((hs.drop kk) ++ (hs.take kk)).length) c111] (legal_spec (hs := (hs.drop kk) ++ (hs.take kk)) (H.rp 0 rfl) (szH_sub (fun x hx => (rot_perm hs _).mem_iff.1 hx) hsz) (H.fact 5 rfl)) ?_
       rintro _ w114 hE115 ⟨bl116, el117, rfl, hj118⟩
       have H := H.ext hE115
       refine RO.fin 1 [5, 6, 9, 10, 48] [(5, .bool bl3), (6, .I el4), (9, .bool bl33), (10, .I el34), (48, .tuple #[.bool bl116, .I el117])] (by as_aux_lemma => kernel_rfl) ?_
       refine (ROB.cons' ?_ (ROB.cons' ?_ ROB.nil'))
       ·
        refine RO.node' [(11, .seq)] (by as_aux_lemma => kernel_rfl) ?_
        refine RO.fin 1 [5, 6, 9, 10, 48, 59] [(5, .bool bl3), (6, .I el4), (9, .bool bl33), (10, .I el34), (48, .tuple #[.bool bl116, .I el117]), (59, .bool bl116)] (by as_aux_lemma => kernel_rfl) ?_
        refine (ROB.cons' ?_ (ROB.cons' ?_ ROB.nil'))
        ·
         refine RO.leaf' [(12, .seq), (13, .seq), (14, .seq)] (by as_aux_lemma => kernel_rfl) ?_
         refine qF 3 [(5, .bool bl3), (6, .I el4), (9, .bool bl33), (10, .I el34), (12, .bool bl116), (13, .I el117)] ?_
         have H := H.pick [3, 4, 5] rfl
         exact hJ39 (bl116, el117) _ ⟨H, hj118⟩
        ·
         refine RO.leaf' [(13, .seq), (12, .seq), (14, .seq)] (by as_aux_lemma => kernel_rfl) ?_
         refine qF 3 [(5, .bool bl3), (6, .I el4), (9, .bool bl33), (10, .I el34), (12, .bool bl116), (13, .I el117)] ?_
         have H := H.pick [3, 4, 5] rfl
         exact hJ39 (bl116, el117) _ ⟨H, hj118⟩
       ·
        refine RO.leaf' [(12, .seq), (11, .seq), (13, .seq), (14, .seq)] (by as_aux_lemma => kernel_rfl) ?_
        refine qF 4 [(5, .bool bl3), (6, .I el4), (9, .bool bl33), (10, .I el34), (12, .bool bl116), (13, .I el117)] ?_
        have H := H.pick [3, 4, 5] rfl
        exact hJ39 (bl116, el117) _ ⟨H, hj118⟩
     ·
      refine RO.node' [(7, .seq), (0, .seq), (4, .seq), (8, .seq), (9, .seq), (10, .seq)] (by as_aux_lemma => kernel_rfl) ?_
      refine RW.slice (κ := .seq) (d := some 56) (r := [(0, .seq), (4, .seq), (8, .seq), (9, .seq), (10, .seq)]) (T := 22) (e := 33) (sh := wopS) (a := a) (len := hs.length) (cap := c) (zs := (hs.take kk)) (lv := none) (hv := (some (.I kk))) (by as_aux_lemma => kernel_rfl) (by as_aux_lemma => kernel_rfl) H 2 rfl 0 kk .nil (.mk (by omega)) (by omega) (by omega) (by rw [List.drop_zero]) ?_
      intro a119 H
      refine RW.new (κ := .seq) (d := some 49) (r := [(4, .seq), (8, .seq), (9, .seq), (10, .seq)]) (o := .cells #[] 33 (0, 0)) (v := fun b => .slice (some ⟨b, 0, none⟩) 0 0) (fun b => by as_aux_lemma => kernel_rfl) (nofun) H ?_
      intro b120 w121 H
      have H := H.toOwn (sh := wopS) (xs := []) (cap := 0) (by rfl) (Nat.le_refl _) (Nat.zero_le _) (by simp) EsP.nil
      have H : Hp w S [] [] [⟨wopS, 33, .slice (some ⟨b120, 0, none⟩) 0 0, []⟩] [Rp (Shape.slice wopS) [.slice a119 (hs.take kk).length c] (hs.take kk), Rp (Shape.slice wopS) [.slice a88 (hs.drop kk).length (c - kk)] (hs.drop kk), Rp (Shape.slice wopS) [.slice a9 hs.reverse.length c9] hs.reverse, Rp (Shape.slice wopS) [.slice a hs.length c] hs, Fz tabsQ] _ := H
      refine RW.appendW (d := some 53) (r := [(8, .seq), (9, .seq), (10, .seq)]) (T := 22) (ty := 22) (e := 33) (m := 10) (by_ := 136) (v := .slice (some ⟨b120, 0, none⟩) 0 0) (a2 := a88) (l2 := (hs.drop kk).length) (c2 := (c - kk)) (zs := (hs.drop kk)) (by as_aux_lemma => kernel_rfl) (by as_aux_lemma => kernel_rfl) rfl H 0 rfl 1 rfl (rfl) (by rw [List.length_drop]; omega) ?_
      intro a122 c123 w125 H hc124
      have H : Hp w S [] [] [⟨wopS, 33, .slice a122 (hs.drop kk).length c123, (hs.drop kk)⟩] [Rp (Shape.slice wopS) [.slice a119 (hs.take kk).length c] (hs.take kk), Rp (Shape.slice wopS) [.slice a88 (hs.drop kk).length (c - kk)] (hs.drop kk), Rp (Shape.slice wopS) [.slice a9 hs.reverse.length c9] hs.reverse, Rp (Shape.slice wopS) [.slice a hs.length c] hs, Fz tabsQ] _ := H
      refine RW.appendW (d := some 57) (r := [(9, .seq), (10, .seq)]) (T := 22) (ty := 22) (e := 33) (m := 10) (by_ := 136) (v := .slice a122 (hs.drop kk).length c123) (a2 := a119) (l2 := (hs.take kk).length) (c2 := c) (zs := (hs.drop kk) ++ (hs.take kk)) (by as_aux_lemma => kernel_rfl) (by as_aux_lemma => kernel_rfl) rfl H 0 rfl 0 rfl (rfl) (by rw [List.length_append, List.length_drop, List.length_take]; omega) ?_
      intro a126 c127 w129 H hc128
      have H : Hp w S [] [] [⟨wopS, 33, .slice a126 (((hs.drop kk) ++ (hs.take kk)).length) c127, (hs.drop kk) ++ (hs.take kk)⟩] [Rp (Shape.slice wopS) [.slice a119 (hs.take kk).length c] (hs.take kk), Rp (Shape.slice wopS) [.slice a88 (hs.drop kk).length (c - kk)] (hs.drop kk), Rp (Shape.slice wopS) [.slice a9 hs.reverse.length c9] hs.reverse, Rp (Shape.slice wopS) [.slice a hs.length c] hs, Fz tabsQ] _ := H
      have H : Hp w S [] [] [] [Rp (Shape.slice wopS) [.slice a126 (((hs.drop kk) ++ (hs.take kk)).length) c127] ((hs.drop kk) ++ (hs.take kk)), Rp (Shape.slice wopS) [.slice a119 (hs.take kk).length c] (hs.take kk), Rp (Shape.slice wopS) [.slice a88 (hs.drop kk).length (c - kk)] (hs.drop kk), Rp (Shape.slice wopS) [.slice a9 hs.reverse.length c9] hs.reverse, Rp (Shape.slice wopS) [.slice a hs.length c] hs, Fz tabsQ] _ := H.freezeW 0 rfl
      refine qK .seq (some 58) [(10, .seq)] 7 #[.slice a126 (((hs.drop kk) ++ (hs.take kk)).length) c127] (legal_spec (hs := (hs.drop kk) ++ (hs.take kk)) (H.rp 0 rfl) (szH_sub (fun x hx => (rot_perm hs _).mem_iff.1 hx) hsz) (H.fact 5 rfl)) ?_
      rintro _ w130 hE131 ⟨bl132, el133, rfl, hj134⟩
      have H := H.ext hE131
      refine RO.fin 1 [5, 6, 9, 10, 48] [(5, .bool bl3), (6, .I el4), (9, .bool bl33), (10, .I el34), (48, .tuple #[.bool bl132, .I el133])] (by as_aux_lemma => kernel_rfl) ?_
      refine (ROB.cons' ?_ (ROB.cons' ?_ ROB.nil'))
      ·
       refine RO.node' [(11, .seq)] (by as_aux_lemma => kernel_rfl) ?_
       refine RO.fin 1 [5, 6, 9, 10, 48, 59] [(5, .bool bl3), (6, .I el4), (9, .bool bl33), (10, .I el34), (48, .tuple #[.bool bl132, .I el133]), (59, .bool bl132)] (by as_aux_lemma => kernel_rfl) ?_
       refine (ROB.cons' ?_ (ROB.cons' ?_ ROB.nil'))
       ·
        refine RO.leaf' [(12, .seq), (13, .seq), (14, .seq)] (by as_aux_lemma => kernel_rfl) ?_
        refine qF 3 [(5, .bool bl3), (6, .I el4), (9, .bool bl33), (10, .I el34), (12, .bool bl132), (13, .I el133)] ?_
        have H := H.pick [3, 4, 5] rfl
        exact hJ39 (bl132, el133) _ ⟨H, hj134⟩
       ·
        refine RO.leaf' [(13, .seq), (12, .seq), (14, .seq)] (by as_aux_lemma => kernel_rfl) ?_
        refine qF 3 [(5, .bool bl3), (6, .I el4), (9, .bool bl33), (10, .I el34), (12, .bool bl132), (13, .I el133)] ?_
        have H := H.pick [3, 4, 5] rfl
        exact hJ39 (bl132, el133) _ ⟨H, hj134⟩
      ·
       refine RO.leaf' [(12, .seq), (11, .seq), (13, .seq), (14, .seq)] (by as_aux_lemma => kernel_rfl) ?_
       refine qF 4 [(5, .bool bl3), (6, .I el4), (9, .bool bl33), (10, .I el34), (12, .bool bl132), (13, .I el133)] ?_
       have H := H.pick [3, 4, 5] rfl
       exact hJ39 (bl132, el133) _ ⟨H, hj134⟩
    ·
     refine RO.node' [(7, .seq)] (by as_aux_lemma => kernel_rfl) ?_
     refine RW.slice (κ := .seq) (d := some 56) (r := []) (T := 22) (e := 33) (sh := wopS) (a := a) (len := hs.length) (cap := c) (zs := (hs.take kk)) (lv := none) (hv := (some (.I kk))) (by as_aux_lemma => kernel_rfl) (by as_aux_lemma => kernel_rfl) H 1 rfl 0 kk .nil (.mk (by omega)) (by omega) (by omega) (by rw [List.drop_zero]) ?_
     intro a135 H
     refine RO.fin 0 [5, 6, 9, 10, 50, 51, 56] [(5, .bool bl3), (6, .I el4), (9, .bool bl33), (10, .I el34), (50, .slice a hs.length c), (51, .I kk), (56, .slice a135 (hs.take kk).length c)] (by as_aux_lemma => kernel_rfl) ?_
     refine (ROB.cons' ?_ (ROB.cons' ?_ ROB.nil'))
     ·
      refine RO.node' [(0, .seq), (3, .seq), (4, .seq), (8, .seq), (9, .seq), (10, .seq)] (by as_aux_lemma => kernel_rfl) ?_
      refine RW.new (κ := .seq) (d := some 49) (r := [(3, .seq), (4, .seq), (8, .seq), (9, .seq), (10, .seq)]) (o := .cells #[] 33 (0, 0)) (v := fun b => .slice (some ⟨b, 0, none⟩) 0 0) (fun b => by as_aux_lemma => kernel_rfl) (nofun) H ?_
      intro b136 w137 H
      refine RW.slice (κ := .seq) (d := some 52) (r := [(4, .seq), (8, .seq), (9, .seq), (10, .seq)]) (T := 22) (e := 33) (sh := wopS) (a := a) (len := hs.length) (cap := c) (zs := (hs.drop kk)) (lv := (some (.I kk))) (hv := none) (by as_aux_lemma => kernel_rfl) (by as_aux_lemma => kernel_rfl) H 2 rfl kk hs.length (.mk (by omega)) .nil (by omega) (by omega) (by rw [List.take_of_length_le (Nat.le_refl _)]) ?_
      intro a138 H
      have H := H.toOwn (sh := wopS) (xs := []) (cap := 0) (by rfl) (Nat.le_refl _) (Nat.zero_le _) (by simp) EsP.nil
      have H : Hp w S [] [] [⟨wopS, 33, .slice (some ⟨b136, 0, none⟩) 0 0, []⟩] [Rp (Shape.slice wopS) [.slice a138 (hs.drop kk).length (c - kk)] (hs.drop kk), Rp (Shape.slice wopS) [.slice a135 (hs.take kk).length c] (hs.take kk), Rp (Shape.slice wopS) [.slice a9 hs.reverse.length c9] hs.reverse, Rp (Shape.slice wopS) [.slice a hs.length c] hs, Fz tabsQ] _ := H
      refine RW.appendW (d := some 53) (r := [(8, .seq), (9, .seq), (10, .seq)]) (T := 22) (ty := 22) (e := 33) (m := 10) (by_ := 136) (v := .slice (some ⟨b136, 0, none⟩) 0 0) (a2 := a138) (l2 := (hs.drop kk).length) (c2 := (c - kk)) (zs := (hs.drop kk)) (by as_aux_lemma => kernel_rfl) (by as_aux_lemma => kernel_rfl) rfl H 0 rfl 0 rfl (rfl) (by rw [List.length_drop]; omega) ?_
      intro a139 c140 w142 H hc141
      have H : Hp w S [] [] [⟨wopS, 33, .slice a139 (hs.drop kk).length c140, (hs.drop kk)⟩] [Rp (Shape.slice wopS) [.slice a138 (hs.drop kk).length (c - kk)] (hs.drop kk), Rp (Shape.slice wopS) [.slice a135 (hs.take kk).length c] (hs.take kk), Rp (Shape.slice wopS) [.slice a9 hs.reverse.length c9] hs.reverse, Rp (Shape.slice wopS) [.slice a hs.length c] hs, Fz tabsQ] _ := H
      refine RW.appendW (d := some 57) (r := [(9, .seq), (10, .seq)]) (T := 22) (ty := 22) (e := 33) (m := 10) (by_ := 136) (v := .slice a139 (hs.drop kk).length c140) (a2 := a135) (l2 := (hs.take kk).length) (c2 := c) (zs := (hs.drop kk) ++ (hs.take kk)) (by as_aux_lemma => kernel_rfl) (by as_aux_lemma => kernel_rfl) rfl H 0 rfl 1 rfl (rfl) (by rw [List.length_append, List.length_drop, List.length_take]; omega) ?_
      intro a143 c144 w146 H hc145
      have H : Hp w S [] [] [⟨wopS, 33, .slice a143 (((hs.drop kk) ++ (hs.take kk)).length) c144, (hs.drop kk) ++ (hs.take kk)⟩] [Rp (Shape.slice wopS) [.slice a138 (hs.drop kk).length (c - kk)] (hs.drop kk), Rp (Shape.slice wopS) [.slice a135 (hs.take kk).length c] (hs.take kk), Rp (Shape.slice wopS) [.slice a9 hs.reverse.length c9] hs.reverse, Rp (Shape.slice wopS) [.slice a hs.length c] hs, Fz tabsQ] _ := H
      have H : Hp w S [] [] [] [Rp (Shape.slice wopS) [.slice a143 (((hs.drop kk) ++ (hs.take kk)).length) c144] ((hs.drop kk) ++ (hs.take kk)), Rp (Shape.slice wopS) [.slice a138 (hs.drop kk).length (c - kk)] (hs.drop kk), Rp (Shape.slice wopS) [.slice a135 (hs.take kk).length c] (hs.take kk), Rp (Shape.slice wopS) [.slice a9 hs.reverse.length c9] hs.reverse, Rp (Shape.slice wopS) [.slice a hs.length c] hs, Fz tabsQ] _ := H.freezeW 0 rfl
      refine qK .seq (some 58) [(10, .seq)] 7 #[.slice a143 (((hs.drop kk) ++ (hs.take kk)).length) c144] (legal_spec (hs := (hs.drop kk) ++ (hs.take kk)) (H.rp 0 rfl) (szH_sub (fun x hx => (rot_perm hs _).mem_iff.1 hx) hsz) (H.fact 5 rfl)) ?_
      rintro _ w147 hE148 ⟨bl149, el150, rfl, hj151⟩
      have H := H.ext hE148
      refine RO.fin 1 [5, 6, 9, 10, 48] [(5, .bool bl3), (6, .I el4), (9, .bool bl33), (10, .I el34), (48, .tuple #[.bool bl149, .I el150])] (by as_aux_lemma => kernel_rfl) ?_
      refine (ROB.cons' ?_ (ROB.cons' ?_ ROB.nil'))
      ·
       refine RO.node' [(11, .seq)] (by as_aux_lemma => kernel_rfl) ?_
       refine RO.fin 1 [5, 6, 9, 10, 48, 59] [(5, .bool bl3), (6, .I el4), (9, .bool bl33), (10, .I el34), (48, .tuple #[.bool bl149, .I el150]), (59, .bool bl149)] (by as_aux_lemma => kernel_rfl) ?_
       refine (ROB.cons' ?_ (ROB.cons' ?_ ROB.nil'))
       ·
        refine RO.leaf' [(12, .seq), (13, .seq), (14, .seq)] (by as_aux_lemma => kernel_rfl) ?_
        refine qF 3 [(5, .bool bl3), (6, .I el4), (9, .bool bl33), (10, .I el34), (12, .bool bl149), (13, .I el150)] ?_
        have H := H.pick [3, 4, 5] rfl
        exact hJ39 (bl149, el150) _ ⟨H, hj151⟩
       ·
        refine RO.leaf' [(13, .seq), (12, .seq), (14, .seq)] (by as_aux_lemma => kernel_rfl) ?_
        refine qF 3 [(5, .bool bl3), (6, .I el4), (9, .bool bl33), (10, .I el34), (12, .bool bl149), (13, .I el150)] ?_
        have H := H.pick [3, 4, 5] rfl
        exact hJ39 (bl149, el150) _ ⟨H, hj151⟩
      ·
       refine RO.leaf' [(12, .seq), (11, .seq), (13, .seq), (14, .seq)] (by as_aux_lemma => kernel_rfl) ?_
       refine qF 4 [(5, .bool bl3), (6, .I el4), (9, .bool bl33), (10, .I el34), (12, .bool bl149), (13, .I el150)] ?_
       have H := H.pick [3, 4, 5] rfl
       exact hJ39 (bl149, el150) _ ⟨H, hj151⟩
     ·
      refine RO.node' [(3, .seq), (0, .seq), (4, .seq), (8, .seq), (9, .seq), (10, .seq)] (by as_aux_lemma => kernel_rfl) ?_
      refine RW.slice (κ := .seq) (d := some 52) (r := [(0, .seq), (4, .seq), (8, .seq), (9, .seq), (10, .seq)]) (T := 22) (e := 33) (sh := wopS) (a := a) (len := hs.length) (cap := c) (zs := (hs.drop kk)) (lv := (some (.I kk))) (hv := none) (by as_aux_lemma => kernel_rfl) (by as_aux_lemma => kernel_rfl) H 2 rfl kk hs.length (.mk (by omega)) .nil (by omega) (by omega) (by rw [List.take_of_length_le (Nat.le_refl _)]) ?_
      intro a152 H
      refine RW.new (κ := .seq) (d := some 49) (r := [(4, .seq), (8, .seq), (9, .seq), (10, .seq)]) (o := .cells #[] 33 (0, 0)) (v := fun b => .slice (some ⟨b, 0, none⟩) 0 0) (fun b => by as_aux_lemma => kernel_rfl) (nofun) H ?_
      intro b153 w154 H
      have H := H.toOwn (sh := wopS) (xs := []) (cap := 0) (by rfl) (Nat.le_refl _) (Nat.zero_le _) (by simp) EsP.nil
      have H : Hp w S [] [] [⟨wopS, 33, .slice (some ⟨b153, 0, none⟩) 0 0, []⟩] [Rp (Shape.slice wopS) [.slice a152 (hs.drop kk).length (c - kk)] (hs.drop kk), Rp (Shape.slice wopS) [.slice a135 (hs.take kk).length c] (hs.take kk), Rp (Shape.slice wopS) [.slice a9 hs.reverse.length c9] hs.reverse, Rp (Shape.slice wopS) [.slice a hs.length c] hs, Fz tabsQ] _ := H
      refine RW.appendW (d := some 53) (r := [(8, .seq), (9, .seq), (10, .seq)]) (T := 22) (ty := 22) (e := 33) (m := 10) (by_ := 136) (v := .slice (some ⟨b153, 0, none⟩) 0 0) (a2 := a152) (l2 := (hs.drop kk).length) (c2 := (c - kk)) (zs := (hs.drop kk)) (by as_aux_lemma => kernel_rfl) (by as_aux_lemma => kernel_rfl) rfl H 0 rfl 0 rfl (rfl) (by rw [List.length_drop]; omega) ?_
      intro a155 c156 w158 H hc157
      have H : Hp w S [] [] [⟨wopS, 33, .slice a155 (hs.drop kk).length c156, (hs.drop kk)⟩] [Rp (Shape.slice wopS) [.slice a152 (hs.drop kk).length (c - kk)] (hs.drop kk), Rp (Shape.slice wopS) [.slice a135 (hs.take kk).length c] (hs.take kk), Rp (Shape.slice wopS) [.slice a9 hs.reverse.length c9] hs.reverse, Rp (Shape.slice wopS) [.slice a hs.length c] hs, Fz tabsQ] _ := H
      refine RW.appendW (d := some 57) (r := [(9, .seq), (10, .seq)]) (T := 22) (ty := 22) (e := 33) (m := 10) (by_ := 136) (v := .slice a155 (hs.drop kk).length c156) (a2 := a135) (l2 := (hs.take kk).length) (c2 := c) (zs := (hs.drop kk) ++ (hs.take kk)) (by as_aux_lemma => kernel_rfl) (by as_aux_lemma => kernel_rfl) rfl H 0 rfl 1 rfl (rfl) (by rw [List.length_append, List.length_drop, List.length_take]; omega) ?_
      intro a159 c160 w162 H hc161
      have H : Hp w S [] [] [⟨wopS, 33, .slice a159 (((hs.drop kk) ++ (hs.take kk)).length) c160, (hs.drop kk) ++ (hs.take kk)⟩] [Rp (Shape.slice wopS) [.slice a152 (hs.drop kk).length (c - kk)] (hs.drop kk), Rp (Shape.slice wopS) [.slice a135 (hs.take kk).length c] (hs.take kk), Rp (Shape.slice wopS) [.slice a9 hs.reverse.length c9] hs.reverse, Rp (Shape.slice wopS) [.slice a hs.length c] hs, Fz tabsQ] _ := H
      have H : Hp w S [] [] [] [Rp (Shape.slice wopS) [.slice a159 (((hs.drop kk) ++ (hs.take kk)).length) c160] ((hs.drop kk) ++ (hs.take kk)), Rp (Shape.slice wopS) [.slice a152 (hs.drop kk).length (c - kk)] (hs.drop kk), Rp (Shape.slice wopS) [.slice a135 (hs.take kk).length c] (hs.take kk), Rp (Shape.slice wopS) [.slice a9 hs.reverse.length c9] hs.reverse, Rp (Shape.slice wopS) [.slice a hs.length c] hs, Fz tabsQ] _ := H.freezeW 0 rfl
      refine qK .seq (some 58) [(10, .seq)] 7 #[.slice a159 (((hs.drop kk) ++ (hs.take kk)).length) c160] (legal_spec (hs := (hs.drop kk) ++ (hs.take kk)) (H.rp 0 rfl) (szH_sub (fun x hx => (rot_perm hs _).mem_iff.1 hx) hsz) (H.fact 5 rfl)) ?_
      rintro _ w163 hE164 ⟨bl165, el166, rfl, hj167⟩
      have H := H.ext hE164
      refine RO.fin 1 [5, 6, 9, 10, 48] [(5, .bool bl3), (6, .I el4), (9, .bool bl33), (10, .I el34), (48, .tuple #[.bool bl165, .I el166])] (by as_aux_lemma => kernel_rfl) ?_
      refine (ROB.cons' ?_ (ROB.cons' ?_ ROB.nil'))
      ·
       refine RO.node' [(11, .seq)] (by as_aux_lemma => kernel_rfl) ?_
       refine RO.fin 1 [5, 6, 9, 10, 48, 59] [(5, .bool bl3), (6, .I el4), (9, .bool bl33), (10, .I el34), (48, .tuple #[.bool bl165, .I el166]), (59, .bool bl165)] (by as_aux_lemma => kernel_rfl) ?_
       refine (ROB.cons' ?_ (ROB.cons' ?_ ROB.nil'))
       ·
        refine RO.leaf' [(12, .seq), (13, .seq), (14, .seq)] (by as_aux_lemma => kernel_rfl) ?_
        refine qF 3 [(5, .bool bl3), (6, .I el4), (9, .bool bl33), (10, .I el34), (12, .bool bl165), (13, .I el166)] ?_
        have H := H.pick [3, 4, 5] rfl
        exact hJ39 (bl165, el166) _ ⟨H, hj167⟩
       ·
        refine RO.leaf' [(13, .seq), (12, .seq), (14, .seq)] (by as_aux_lemma => kernel_rfl) ?_
        refine qF 3 [(5, .bool bl3), (6, .I el4), (9, .bool bl33), (10, .I el34), (12, .bool bl165), (13, .I el166)] ?_
        have H := H.pick [3, 4, 5] rfl
        exact hJ39 (bl165, el166) _ ⟨H, hj167⟩
      ·
       refine RO.leaf' [(12, .seq), (11, .seq), (13, .seq), (14, .seq)] (by as_aux_lemma => kernel_rfl) ?_
       refine qF 4 [(5, .bool bl3), (6, .I el4), (9, .bool bl33), (10, .I el34), (12, .bool bl165), (13, .I el166)] ?_
       have H := H.pick [3, 4, 5] rfl
       exact hJ39 (bl165, el166) _ ⟨H, hj167⟩
   ·
    rintro ⟨bc, ec⟩ w40 ⟨H, hjc⟩
    refine qR 1 [.c [8, 0], .c [9]] [(5, .bool bl3), (6, .I el4), (9, .bool bl33), (10, .I el34), (12, .bool bc), (13, .I ec)] ?_
    refine qG (sq 0 22) ?_
    refine qP 2 (sq 2 22) [(5, .bool bl3), (6, .I el4), (10, .I el34), (12, .bool bc), (13, .I ec), (61, .bool bl3), (62, .bool bl33)] ?_
    refine RW.pv (κ := .seq) (d := some 63) (r := (sq 3 22)) (v' := .bool true) (v := .bool (bl3 == bl33)) (by as_aux_lemma => kernel_rfl) (congrArg Value.bool (beq_iff_eq.2 (judged_perm hj5 hj35 (List.reverse_perm hs)).1)) ?_
    refine qP 3 (sq 6 22) [(5, .bool bl3), (6, .I el4), (12, .bool bc), (13, .I ec), (64, .bool true), (65, .I el4), (66, .I el34)] ?_
    refine RW.pv (κ := .seq) (d := some 67) (r := (sq 7 22)) (v' := .bool true) (v := .bool (el4 == el34)) (by as_aux_lemma => kernel_rfl) (congrArg Value.bool (beq_iff_eq.2 (judged_perm hj5 hj35 (List.reverse_perm hs)).2)) ?_
    refine qP 4 (sq 11 22) [(6, .I el4), (13, .I ec), (69, .bool true), (70, .bool bl3), (71, .bool bc)] ?_
    refine RW.pv (κ := .seq) (d := some 72) (r := (sq 12 22)) (v' := .bool true) (v := .bool (bl3 == bc)) (by as_aux_lemma => kernel_rfl) (congrArg Value.bool (beq_iff_eq.2 (judged_perm hj5 hjc (rot_perm hs kk)).1)) ?_
    refine qP 4 (sq 16 22) [(74, .bool true), (75, .I el4), (76, .I ec)] ?_
    refine RW.pv (κ := .seq) (d := some 77) (r := (sq 17 22)) (v' := .bool true) (v := .bool (el4 == ec)) (by as_aux_lemma => kernel_rfl) (congrArg Value.bool (beq_iff_eq.2 (judged_perm hj5 hjc (rot_perm hs kk)).2)) ?_
    refine qP 2 (sq 19 22) [(79, .bool true)] ?_
    refine qK .seq (some 80) (sq 20 22) 8 #[] (heads_spec (H.fact 2 rfl)) ?_
    rintro _ w168 hE169 rfl
    have H := H.ext hE169
    refine qF 2 [(4, .bool true)] ?_
    refine qT (.bool true) Tryd.func4 ?_
    exact ⟨_, rfl, H.done, rfl⟩
end Go.Proofs.YtcodkepdolmmbaaDoor
