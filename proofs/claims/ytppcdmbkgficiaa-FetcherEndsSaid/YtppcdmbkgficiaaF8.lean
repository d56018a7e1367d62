import Derived.Test.YtppcdmbkgficiaaF7
namespace Go.Proofs.Ytppcdmbkgficiaa
open Go.BX

def Rt (xs : List (BitVec 8)) (limit i : Int) : Rd := { beginR (objOf xs 2) 1 2 limit with waited := i }
theorem Rt_waits {xs : List (BitVec 8)} {limit i : Int} : waitsR (Rt xs limit i) = true := rfl
theorem asksTo_all {r : Rd} (h1 : r.bad = []) (h2 : r.pieces = []) : ∀ n, (asksTo r n).length = n
 | 0 => rfl
 | n + 1 => by
  rw [← asksTo_yes (by unfold openR; rw [h1, h2]; simp), List.length_append, asksTo_all h1 h2 n]; rfl
theorem Rt_asks {xs : List (BitVec 8)} {limit i : Int} : (asksR (Rt xs limit i)).length = 2 := asksTo_all rfl rfl _
theorem Rt_B {xs : List (BitVec 8)} {limit i : Int} (hs : xs.length ≤ 65536) (hi : 0 ≤ i ∧ i ≤ 200000) (hl : 1 ≤ limit ∧ limit ≤ 100000) : rdB (Rt xs limit i) := by
 have h1 : (Rt xs limit i).object.key.size = 1 := rfl
 have h2 : (Rt xs limit i).object.size = (xs.length : Int) := rfl
 have h3 : (Rt xs limit i).waited = i := rfl
 have h4 : (Rt xs limit i).limit = limit := rfl
 refine ⟨by rw [h1]; simp [maxLen], ⟨by show (0 : Int) ≤ 7; decide, by show (7 : Int) ≤ _; decide⟩, by rw [h2]; omega, ⟨by show (_ : Int) ≤ 0; decide, by show (0 : Int) ≤ _; decide⟩, ⟨by show (0 : Int) ≤ 2; decide, by show (2 : Int) ≤ _; decide⟩, ⟨by show (_ : Int) ≤ 1; decide, by show (1 : Int) ≤ _; decide⟩, ⟨by show (_ : Int) ≤ 2; decide, by show (2 : Int) ≤ _; decide⟩, by rw [h3]; omega, by rw [h4]; omega, ⟨by show (_ : Int) ≤ 0; decide, by show (0 : Int) ≤ _; decide⟩⟩
theorem rtick_wait {xs : List (BitVec 8)} {limit i : Int} (h0 : 0 ≤ i) (h : i + 1 ≤ limit) (hl : limit ≤ 100000) : tickR (Rt xs limit i) = (Rt xs limit (i + 1), if (i + 1) % 4 = 0 then asksR (Rt xs limit (i + 1)) else [], 0) := by
 have e1 : (Rt xs limit i).waited = i := rfl
 have e2 : (Rt xs limit i).limit = limit := rfl
 have e3 : (Rt xs limit i).done = 0 := rfl
 unfold tickR
 rw [if_neg (by rw [Rt_waits, e1]; simp; omega), e1, e2, if_neg (by omega)]
 split <;> rfl
theorem rtick_last {xs : List (BitVec 8)} {limit : Int} (h0 : 1 ≤ limit) (hl : limit ≤ 100000) : tickR (Rt xs limit limit) = ({ Rt xs limit (limit + 1) with done := 2 }, [], 2) := by
 have e1 : (Rt xs limit limit).waited = limit := rfl
 have e2 : (Rt xs limit limit).limit = limit := rfl
 unfold tickR
 rw [if_neg (by rw [Rt_waits, e1]; simp; omega), e1, e2, if_pos (by omega)]
 rfl
theorem lim_ok {xs : List (BitVec 8)} {limit : Int} (hs : xs.length ≤ 65536) (hl : 1 ≤ limit ∧ limit ≤ 100000) : okB (objOf xs 2) 1 2 limit := by
 have h2 : (objOf xs 2).size = (xs.length : Int) := rfl
 refine ⟨el_ok.2 (by unfold okL; rw [h2]; omega), by omega, by omega, rfl, hl.1, hl.2⟩
theorem lim_bad {xs : List (BitVec 8)} {limit : Int} (hl : ¬ (1 ≤ limit ∧ limit ≤ 100000)) : ¬ okB (objOf xs 2) 1 2 limit := fun h => hl h.2.2.2.2

theorem fends_big {S : Nat → Prop} {w : World} {xs : List (BitVec 8)} {a : Option Addr} {c : Nat} (limit : Int) (hli : -9223372036854775808 ≤ limit ∧ limit ≤ 9223372036854775807) (h : SB.rep S w [.slice a xs.length c] xs) (hb : ¬ xs.length ≤ 2000) :
 Calls Try.prog 15 #[.slice a xs.length c, .I limit] w (Ret fun v w' => Ext w w' ∧ v = .bool true) := by
 refine qS (fn := Try.f15) (n := 106) (σ := [(0, .slice a xs.length c), (1, .I limit)]) Try.func15 ?_
 have H := Hp.startF (w := w) (S := S) (G := [Rp SB [.slice a xs.length c] xs]) (.rp h .nil)
 refine qR 5 [.c [1, 0, 1], .c [2]] [(0, .slice a xs.length c), (1, .I limit), (20, .bool (decide ((((xs.length : Nat) : Int) : Int) > 2000)))] ?_
 refine qD ((((xs.length : Nat) : Int) : Int) > 2000) (fun h1 => ?_) (fun h1 => ?_)
 ·
  refine qR 1 [.c [1, 0, 1, 0, 0], .c [1, 0, 1, 0, 1], .c [2]] [] ?_
  refine qG (sq 0 2) ?_
  refine qK .seq (some 21) (sq 1 2) 45 #[] (heads21_spec (S := fun _ => True)) ?_
  rintro _ w2 hE3 rfl
  have H := H.ext hE3
  refine qF 1 [(4, .bool true)] ?_
  refine qT (.bool true) Try.func15 ?_
  exact ⟨_, rfl, H.done, rfl⟩
 ·
  omega

theorem fends_bad {S : Nat → Prop} {w : World} {xs : List (BitVec 8)} {a : Option Addr} {c : Nat} (limit : Int) (hli : -9223372036854775808 ≤ limit ∧ limit ≤ 9223372036854775807) (h : SB.rep S w [.slice a xs.length c] xs) (hs : xs.length ≤ 2000) (hb : ¬ (1 ≤ limit ∧ limit ≤ 100000)) :
 Calls Try.prog 15 #[.slice a xs.length c, .I limit] w (Ret fun v w' => Ext w w' ∧ v = .bool true) := by
 refine qS (fn := Try.f15) (n := 106) (σ := [(0, .slice a xs.length c), (1, .I limit)]) Try.func15 ?_
 have H := Hp.startF (w := w) (S := S) (G := [Rp SB [.slice a xs.length c] xs]) (.rp h .nil)
 refine qR 5 [.c [1, 0, 1], .c [2]] [(0, .slice a xs.length c), (1, .I limit), (20, .bool (decide ((((xs.length : Nat) : Int) : Int) > 2000)))] ?_
 refine qD ((((xs.length : Nat) : Int) : Int) > 2000) (fun h1 => ?_) (fun h1 => ?_)
 ·
  omega
 ·
  refine qR 2 [.c [2, 0], .c [3]] [(0, .slice a xs.length c), (1, .I limit)] ?_
  refine qG (sq 0 10) ?_
  refine qP 1 (sq 1 10) [(1, .I limit), (23, .slice a xs.length c)] ?_
  refine qK .seq (some 24) (sq 2 10) 46 #[.slice a xs.length c, .I 1, .I 2] (object21_ok (S := Av S w [] (idsOf [] [])) (xs := xs) (H.rp 0 rfl) (k := 1) (n := 2) (by omega) (by decide) (by decide) (by decide)) ?_
  rintro _ w2 hE6 ⟨cs3, a4, c5, rfl, hr7, hr8⟩
  have H0s := H
  obtain ⟨a6q9, k6q9, rfl, hf10, hf11, hf12, hf13, hf14, hf15⟩ := obj_open hr7
  have H := H.addN hE6 (F := Rp (Shape.slice chkS) [.slice a4 (chksOf xs 1 2).length c5] (chksOf xs 1 2)) hr8
  have H := H.add (F := Rp (Shape.slice (Shape.int .i64)) [.slice a6q9 ((objOf xs 2).nodes.length) k6q9] ((objOf xs 2).nodes)) ((H0s.addN hE6 (F := Rp (Shape.slice (Shape.int .i64)) [.slice a6q9 ((objOf xs 2).nodes.length) k6q9] ((objOf xs 2).nodes)) hf15).rp 0 rfl)
  refine qP 4 (sq 6 10) [(1, .I limit), (25, .agg (objV (objOf xs 2) a6q9 k6q9).toArray), (26, .slice a4 (chksOf xs 1 2).length c5), (27, .bool true)] ?_
  refine qB .seq 5 (sq 7 10) #[.string (⟨#[]⟩), .int .u64 0, .I 0, .int .u32 0, .I 0, .int .u64 0, .slice none 0 0] 102 H ?_
  intro b16 w17 H
  refine RW.store (d := none) (r := (sq 8 10)) (T := 102) (b := b16) (k := 0) (v := .agg (objV (objOf xs 2) a6q9 k6q9).toArray) (c' := (objV (objOf xs 2) a6q9 k6q9).toArray) (M' := [(b16, .cells (objV (objOf xs 2) a6q9 k6q9).toArray 102 (0, 0))]) (by as_aux_lemma => kernel_rfl) H 0 rfl (by as_aux_lemma => kernel_rfl) (by as_aux_lemma => kernel_rfl) ?_
  intro w18 H
  refine qF 2 [(1, .I limit), (5, .P b16 0), (7, .bool true)] ?_
  refine qR 1 [.c [3, 0], .c [4]] [(1, .I limit), (5, .P b16 0), (7, .bool true)] ?_
  refine qG (sq 0 11) ?_
  refine qL .seq 29 (sq 1 11) 102 b16 0 0 (.agg (objV (objOf xs 2) a6q9 k6q9).toArray) (H.cells 0 rfl) ?_
  refine qP 1 (sq 2 11) [(1, .I limit), (7, .bool true), (29, .agg (objV (objOf xs 2) a6q9 k6q9).toArray), (30, .I limit)] ?_
  refine qK .seq (some 31) (sq 3 11) 47 #[.agg (objV (objOf xs 2) a6q9 k6q9).toArray, .I 1, .I 2, .I limit] (fbegin_bad (O := (objOf xs 2)) (obj_mk (y0 := (objOf xs 2).key) (y1 := (objOf xs 2).version) (y2 := (objOf xs 2).size) (y3 := (objOf xs 2).sum) (y4 := (objOf xs 2).group) (y5 := (objOf xs 2).epoch) (y6 := (objOf xs 2).nodes) ⟨rfl, by first | assumption | (simp [maxLen]; done) | decide⟩ u64a i64a Shape.bv_mk i64a u64a (H.rp 0 rfl)) 1 2 limit (lim_bad hb)) ?_
  rintro _ w19 hE20 rfl
  have H := H.ext hE20
  refine qP 4 (sq 7 11) [(1, .I limit), (7, .bool true), (32, .agg (rdZ).toArray), (33, .slice none 0 0), (34, .I 2)] ?_
  refine qB .seq 8 (sq 8 11) ((rdZ).toArray) 107 H ?_
  intro b21 w22 H
  refine RW.store (d := none) (r := (sq 9 11)) (T := 107) (b := b21) (k := 0) (v := .agg (rdZ).toArray) (c' := (rdZ).toArray) (M' := [(b21, .cells (rdZ).toArray 107 (0, 0)), (b16, .cells (objV (objOf xs 2) a6q9 k6q9).toArray 102 (0, 0))]) (by as_aux_lemma => kernel_rfl) H 0 rfl (by as_aux_lemma => kernel_rfl) (by as_aux_lemma => kernel_rfl) ?_
  intro w23 H
  refine qF 2 [(1, .I limit), (7, .bool true), (8, .P b21 0), (10, .I 2)] ?_
  refine qR 5 [.c [4, 0, 1, 0, 0], .c [4, 0, 1, 0, 1], .c [5]] [(1, .I limit), (7, .bool true)] ?_
  refine qG (sq 0 13) ?_
  refine qP 5 (sq 5 13) [(1, .I limit), (42, .bool true), (45, .bool (decide ((limit : Int) < 1)))] ?_
  refine tD (fun b_ => [(1, .I limit), (42, .bool true), (45, .bool b_)]) ((limit : Int) < 1) (fun h24 => ?_) (fun h24 => ?_)
  ·
   refine qP 5 (sq 10 13) [(50, .bool true)] ?_
   refine qK .seq (some 51) (sq 11 13) 45 #[] (heads21_spec (S := fun _ => True)) ?_
   rintro _ w25 hE26 rfl
   have H := H.ext hE26
   refine qF 2 [(4, .bool true)] ?_
   refine qT (.bool true) Try.func15 ?_
   exact ⟨_, rfl, H.done, rfl⟩
  ·
   refine qP 5 (sq 10 13) [(50, .bool (decide ((limit : Int) > 100000)))] ?_
   refine tD (fun b_ => [(50, .bool b_)]) ((limit : Int) > 100000) (fun h27 => ?_) (fun h27 => ?_)
   ·
    refine qK .seq (some 51) (sq 11 13) 45 #[] (heads21_spec (S := fun _ => True)) ?_
    rintro _ w28 hE29 rfl
    have H := H.ext hE29
    refine qF 2 [(4, .bool true)] ?_
    refine qT (.bool true) Try.func15 ?_
    exact ⟨_, rfl, H.done, rfl⟩
   ·
    omega

set_option maxHeartbeats 4000000 in
theorem fends_ok {S : Nat → Prop} {w : World} {xs : List (BitVec 8)} {a : Option Addr} {c : Nat} (limit : Int) (hli : -9223372036854775808 ≤ limit ∧ limit ≤ 9223372036854775807) (h : SB.rep S w [.slice a xs.length c] xs) (hs : xs.length ≤ 2000) (hl9 : 1 ≤ limit ∧ limit ≤ 100000) :
 Calls Try.prog 15 #[.slice a xs.length c, .I limit] w (Ret fun v w' => Ext w w' ∧ v = .bool true) := by
 refine qS (fn := Try.f15) (n := 106) (σ := [(0, .slice a xs.length c), (1, .I limit)]) Try.func15 ?_
 have H := Hp.startF (w := w) (S := S) (G := [Rp SB [.slice a xs.length c] xs]) (.rp h .nil)
 refine qR 5 [.c [1, 0, 1], .c [2]] [(0, .slice a xs.length c), (1, .I limit), (20, .bool (decide ((((xs.length : Nat) : Int) : Int) > 2000)))] ?_
 refine qD ((((xs.length : Nat) : Int) : Int) > 2000) (fun h1 => ?_) (fun h1 => ?_)
 ·
  omega
 ·
  refine qR 2 [.c [2, 0], .c [3]] [(0, .slice a xs.length c), (1, .I limit)] ?_
  refine qG (sq 0 10) ?_
  refine qP 1 (sq 1 10) [(1, .I limit), (23, .slice a xs.length c)] ?_
  refine qK .seq (some 24) (sq 2 10) 46 #[.slice a xs.length c, .I 1, .I 2] (object21_ok (S := Av S w [] (idsOf [] [])) (xs := xs) (H.rp 0 rfl) (k := 1) (n := 2) (by omega) (by decide) (by decide) (by decide)) ?_
  rintro _ w2 hE6 ⟨cs3, a4, c5, rfl, hr7, hr8⟩
  have H0s := H
  obtain ⟨a6q9, k6q9, rfl, hf10, hf11, hf12, hf13, hf14, hf15⟩ := obj_open hr7
  have H := H.addN hE6 (F := Rp (Shape.slice chkS) [.slice a4 (chksOf xs 1 2).length c5] (chksOf xs 1 2)) hr8
  have H := H.add (F := Rp (Shape.slice (Shape.int .i64)) [.slice a6q9 ((objOf xs 2).nodes.length) k6q9] ((objOf xs 2).nodes)) ((H0s.addN hE6 (F := Rp (Shape.slice (Shape.int .i64)) [.slice a6q9 ((objOf xs 2).nodes.length) k6q9] ((objOf xs 2).nodes)) hf15).rp 0 rfl)
  refine qP 4 (sq 6 10) [(1, .I limit), (25, .agg (objV (objOf xs 2) a6q9 k6q9).toArray), (26, .slice a4 (chksOf xs 1 2).length c5), (27, .bool true)] ?_
  refine qB .seq 5 (sq 7 10) #[.string (⟨#[]⟩), .int .u64 0, .I 0, .int .u32 0, .I 0, .int .u64 0, .slice none 0 0] 102 H ?_
  intro b16 w17 H
  refine RW.store (d := none) (r := (sq 8 10)) (T := 102) (b := b16) (k := 0) (v := .agg (objV (objOf xs 2) a6q9 k6q9).toArray) (c' := (objV (objOf xs 2) a6q9 k6q9).toArray) (M' := [(b16, .cells (objV (objOf xs 2) a6q9 k6q9).toArray 102 (0, 0))]) (by as_aux_lemma => kernel_rfl) H 0 rfl (by as_aux_lemma => kernel_rfl) (by as_aux_lemma => kernel_rfl) ?_
  intro w18 H
  refine qF 2 [(1, .I limit), (5, .P b16 0), (7, .bool true)] ?_
  refine qR 1 [.c [3, 0], .c [4]] [(1, .I limit), (5, .P b16 0), (7, .bool true)] ?_
  refine qG (sq 0 11) ?_
  refine qL .seq 29 (sq 1 11) 102 b16 0 0 (.agg (objV (objOf xs 2) a6q9 k6q9).toArray) (H.cells 0 rfl) ?_
  refine qP 1 (sq 2 11) [(1, .I limit), (7, .bool true), (29, .agg (objV (objOf xs 2) a6q9 k6q9).toArray), (30, .I limit)] ?_
  refine qK .seq (some 31) (sq 3 11) 47 #[.agg (objV (objOf xs 2) a6q9 k6q9).toArray, .I 1, .I 2, .I limit] (fbegin_ok (O := (objOf xs 2)) (obj_mk (y0 := (objOf xs 2).key) (y1 := (objOf xs 2).version) (y2 := (objOf xs 2).size) (y3 := (objOf xs 2).sum) (y4 := (objOf xs 2).group) (y5 := (objOf xs 2).epoch) (y6 := (objOf xs 2).nodes) ⟨rfl, by first | assumption | (simp [maxLen]; done) | decide⟩ u64a i64a Shape.bv_mk i64a u64a (H.rp 0 rfl)) 1 2 limit (lim_ok (by omega) hl9)) ?_
  rintro _ w19 hE20 ⟨cs21, a22, c23, rfl, hr24, hr25⟩
  have H0s := H
  replace hr24 : rdS.rep _ _ cs21 (Rt xs limit 0) := hr24
  replace hr25 : (Shape.slice msgS).rep _ _ [.slice a22 (asksR (Rt xs limit 0)).length c23] (asksR (Rt xs limit 0)) := hr25
  rw [show beginR (objOf xs 2) 1 2 limit = (Rt xs limit 0) from rfl]
  obtain ⟨cs0q26, a3q26, k3q26, a4q26, k4q26, rfl, hf27, hf28, hf29, hf30, hf31, hf32, hf33, hf34⟩ := rd_open hr24
  obtain ⟨a6q35, k6q35, rfl, hf36, hf37, hf38, hf39, hf40, hf41⟩ := obj_open hf27
  have H := H.addN hE20 (F := Rp (Shape.slice msgS) [.slice a22 ((asksR (Rt xs limit 0)).length) c23] (asksR (Rt xs limit 0))) hr25
  have H := H.add (F := Rp (Shape.slice (Shape.int .i64)) [.slice a6q35 (((Rt xs limit 0).object).nodes.length) k6q35] (((Rt xs limit 0).object).nodes)) ((H0s.addN hE20 (F := Rp (Shape.slice (Shape.int .i64)) [.slice a6q35 (((Rt xs limit 0).object).nodes.length) k6q35] (((Rt xs limit 0).object).nodes)) hf41).rp 0 rfl)
  have H := H.add (F := Rp (Shape.slice pcS) [.slice a3q26 ((Rt xs limit 0).pieces.length) k3q26] ((Rt xs limit 0).pieces)) ((H0s.addN hE20 (F := Rp (Shape.slice pcS) [.slice a3q26 ((Rt xs limit 0).pieces.length) k3q26] ((Rt xs limit 0).pieces)) hf30).rp 0 rfl)
  have H := H.add (F := Rp (Shape.slice (Shape.int .i64)) [.slice a4q26 ((Rt xs limit 0).bad.length) k4q26] ((Rt xs limit 0).bad)) ((H0s.addN hE20 (F := Rp (Shape.slice (Shape.int .i64)) [.slice a4q26 ((Rt xs limit 0).bad.length) k4q26] ((Rt xs limit 0).bad)) hf31).rp 0 rfl)
  refine qP 4 (sq 7 11) [(1, .I limit), (7, .bool true), (32, .agg (rdV (Rt xs limit 0) a6q35 k6q35 a3q26 k3q26 a4q26 k4q26).toArray), (33, .slice a22 ((asksR (Rt xs limit 0)).length) c23), (34, .I 0)] ?_
  refine qB .seq 8 (sq 8 11) ((rdZ).toArray) 107 H ?_
  intro b42 w43 H
  refine RW.store (d := none) (r := (sq 9 11)) (T := 107) (b := b42) (k := 0) (v := .agg (rdV (Rt xs limit 0) a6q35 k6q35 a3q26 k3q26 a4q26 k4q26).toArray) (c' := (rdV (Rt xs limit 0) a6q35 k6q35 a3q26 k3q26 a4q26 k4q26).toArray) (M' := [(b42, .cells (rdV (Rt xs limit 0) a6q35 k6q35 a3q26 k3q26 a4q26 k4q26).toArray 107 (0, 0)), (b16, .cells (objV (objOf xs 2) a6q9 k6q9).toArray 102 (0, 0))]) (by as_aux_lemma => kernel_rfl) H 0 rfl (by as_aux_lemma => kernel_rfl) (by as_aux_lemma => kernel_rfl) ?_
  intro w44 H
  refine qF 2 [(1, .I limit), (7, .bool true), (8, .P b42 0), (10, .I 0)] ?_
  refine qR 8 [.c [5, 0, 1], .c [6]] [(1, .I limit), (8, .P b42 0), (54, .bool (decide ((limit : Int) > 300)))] ?_
  refine qD ((limit : Int) > 300) (fun h45 => ?_) (fun h45 => ?_)
  ·
   refine qR 1 [.c [5, 0, 1, 0, 0], .c [5, 0, 1, 0, 1], .c [6]] [] ?_
   refine qG (sq 0 2) ?_
   refine qK .seq (some 55) (sq 1 2) 45 #[] (heads21_spec (S := fun _ => True)) ?_
   rintro _ w46 hE47 rfl
   have H := H.ext hE47
   refine qF 1 [(4, .bool true)] ?_
   refine qT (.bool true) Try.func15 ?_
   exact ⟨_, rfl, H.done, rfl⟩
  ·
   refine qR 5 [.c [6, 0, 1, 0], .b 0, .c [7]] [(1, .I limit), (8, .P b42 0), (11, .I 1)] ?_
   have H := H.pick [2, 1, 0] (G' := [Rp (Shape.slice (Shape.int .i64)) [.slice a6q35 (Rt xs limit 0).object.nodes.length k6q35] (Rt xs limit 0).object.nodes, Rp (Shape.slice pcS) [.slice a3q26 (Rt xs limit 0).pieces.length k3q26] (Rt xs limit 0).pieces, Rp (Shape.slice (Shape.int .i64)) [.slice a4q26 (Rt xs limit 0).bad.length k4q26] (Rt xs limit 0).bad]) rfl
   have H := H.drop (M' := [(b42, .cells (rdV (Rt xs limit 0) a6q35 k6q35 a3q26 k3q26 a4q26 k4q26).toArray 107 (0, 0))]) (W' := []) (by repeat (first | exact List.Sublist.refl _ | exact List.nil_sublist _ | apply List.Sublist.cons_cons | apply List.Sublist.cons)) (by repeat (first | exact List.Sublist.refl _ | exact List.nil_sublist _ | apply List.Sublist.cons_cons | apply List.Sublist.cons))
   refine WK.loop (α := Nat × Rd × Option Addr × Nat × Option Addr × Nat × Option Addr × Nat) (b := cd Try.prog 15 [6, 0, 1, 0, 0]) (by as_aux_lemma => kernel_rfl) (fun st_ => match st_ with | (i, D, a06q, k06q, a3q, k3q, a4q, k4q) => [(1, .I limit), (8, .P b42 0), (11, .I i)]) (fun st_ w' => match st_ with | (i, D, a06q, k06q, a3q, k3q, a4q, k4q) => Hp w S [] [(b42, .cells (rdV D a06q k06q a3q k3q a4q k4q).toArray 107 (0, 0))] [] [Rp (Shape.slice (Shape.int .i64)) [.slice a06q D.object.nodes.length k06q] D.object.nodes, Rp (Shape.slice pcS) [.slice a3q D.pieces.length k3q] D.pieces, Rp (Shape.slice (Shape.int .i64)) [.slice a4q D.bad.length k4q] D.bad] w' ∧ 1 ≤ i ∧ (i : Int) ≤ limit + 1 ∧ D = Rt xs limit ((i : Int) - 1)) (fun st_ => match st_ with | (i, D, a06q, k06q, a3q, k3q, a4q, k4q) => (limit + 1 - i).toNat) (1, Rt xs limit 0, a6q35, k6q35, a3q26, k3q26, a4q26, k4q26) ⟨H, by omega, by omega, rfl⟩ (rfl) ?_
   rintro ⟨i, D, a06q, k06q, a3q, k3q, a4q, k4q⟩ w49 ⟨H, hinv0⟩ hback48
   have hBq : rdB D := hinv0.2.2 ▸ Rt_B (by omega) (by omega) hl9
   unfold rdB at hBq
   have hsq := hBq.1
   have hq7 : D.object.nodes.length = 2 := hinv0.2.2 ▸ rfl
   have hq8 : D.waited = (i : Int) - 1 := hinv0.2.2 ▸ rfl
   refine qR 3 [.c [6, 0, 1, 0, 0, 0, 1], .c [6, 0, 1, 0, 0, 1], .l [6, 0, 1, 0, 0], .b 0, .c [7]] [(1, .I limit), (8, .P b42 0), (11, .I i), (58, .bool (decide (((i : Int) : Int) ≤ limit)))] ?_
   refine qD (((i : Int) : Int) ≤ limit) (fun h50 => ?_) (fun h50 => ?_)
   ·
    refine qR 4 [.c [6, 0, 1, 0, 0, 1, 0, 0, 0], .c [6, 0, 1, 0, 0, 1, 0, 0, 1], .b 1, .c [6, 0, 1, 0, 0, 2], .l [6, 0, 1, 0, 0], .b 0, .c [7]] [(1, .I limit), (8, .P b42 0), (11, .I i)] ?_
    refine qG (sq 0 10) ?_
    refine qL .seq 62 (sq 1 10) 107 b42 0 0 (.agg (rdV D a06q k06q a3q k3q a4q k4q).toArray) (H.cells 0 rfl) ?_
    -- call
    refine qK .seq (some 63) (sq 2 10) 50 #[.agg (rdV D a06q k06q a3q k3q a4q k4q).toArray] (ftick_spec (r := D) (rd_mkB (by unfold rdB; omega) (H.rp 0 rfl) (H.rp 1 rfl) (H.rp 2 rfl)) (by omega) (by omega)) ?_
    rintro _ w51 hE52 ⟨cs55, a57, c58, D54, D56, D59, rfl, hr60, hr61, hlaw53⟩
    have H0s := H
    obtain ⟨cs0q62, a3q62, k3q62, a4q62, k4q62, rfl, hf63, hf64, hf65, hf66, hf67, hf68, hf69, hf70⟩ := rd_open hr60
    obtain ⟨a6q71, k6q71, rfl, hf72, hf73, hf74, hf75, hf76, hf77⟩ := obj_open hf63
    have H := H.addN hE52 (F := Rp (Shape.slice (Shape.int .i64)) [.slice a6q71 D54.object.nodes.length k6q71] D54.object.nodes) hf77
    have H := H.add (F := Rp (Shape.slice pcS) [.slice a3q62 D54.pieces.length k3q62] D54.pieces) ((H0s.addN hE52 (F := Rp (Shape.slice pcS) [.slice a3q62 D54.pieces.length k3q62] D54.pieces) hf66).rp 0 rfl)
    have H := H.add (F := Rp (Shape.slice (Shape.int .i64)) [.slice a4q62 D54.bad.length k4q62] D54.bad) ((H0s.addN hE52 (F := Rp (Shape.slice (Shape.int .i64)) [.slice a4q62 D54.bad.length k4q62] D54.bad) hf67).rp 0 rfl)
    have H := H.add (F := Rp (Shape.slice msgS) [.slice a57 D56.length c58] D56) ((H0s.addN hE52 (F := Rp (Shape.slice msgS) [.slice a57 D56.length c58] D56) hr61).rp 0 rfl)
    refine qP 4 (sq 6 10) [(1, .I limit), (8, .P b42 0), (11, .I i), (64, .agg (rdV D54 a6q71 k6q71 a3q62 k3q62 a4q62 k4q62).toArray), (65, .slice a57 D56.length c58), (66, .I D59)] ?_
    refine qB .seq 12 (sq 7 10) ((rdZ).toArray) 107 H ?_
    intro b78 w79 H
    refine RW.store (d := none) (r := (sq 8 10)) (T := 107) (b := b78) (k := 0) (v := .agg (rdV D54 a6q71 k6q71 a3q62 k3q62 a4q62 k4q62).toArray) (c' := (rdV D54 a6q71 k6q71 a3q62 k3q62 a4q62 k4q62).toArray) (M' := [(b78, .cells (rdV D54 a6q71 k6q71 a3q62 k3q62 a4q62 k4q62).toArray 107 (0, 0)), (b42, .cells (rdV D a06q k06q a3q k3q a4q k4q).toArray 107 (0, 0))]) (by as_aux_lemma => kernel_rfl) H 0 rfl (by as_aux_lemma => kernel_rfl) (by as_aux_lemma => kernel_rfl) ?_
    intro w80 H
    refine qF 2 [(1, .I limit), (8, .P b42 0), (11, .I i), (12, .P b78 0), (13, .slice a57 D56.length c58), (14, .I D59)] ?_
    refine qR 2 [.c [6, 0, 1, 0, 0, 1, 0, 0, 1, 0, 0], .c [6, 0, 1, 0, 0, 1, 0, 0, 1, 0, 1], .c [6, 0, 1, 0, 0, 1, 0, 0, 2], .b 1, .c [6, 0, 1, 0, 0, 2], .l [6, 0, 1, 0, 0], .b 0, .c [7]] [(1, .I limit), (8, .P b42 0), (11, .I i), (12, .P b78 0), (13, .slice a57 D56.length c58), (14, .I D59)] ?_
    refine qG (sq 0 22) ?_
    refine qP 3 (sq 3 22) [(1, .I limit), (8, .P b42 0), (11, .I i), (12, .P b78 0), (13, .slice a57 D56.length c58), (69, .bool (D59 != 0))] ?_
    refine tN (fun b_ => [(1, .I limit), (8, .P b42 0), (11, .I i), (12, .P b78 0), (13, .slice a57 D56.length c58), (69, .bool b_)]) D59 0 (fun h81 => ?_) (fun h81 => ?_)
    ·
     have hT9 := hlaw53.trans (hinv0.2.2 ▸ rtick_wait (by omega) (by omega) (by omega))
     obtain ⟨hT1, hT2, hT3⟩ : D54 = Rt xs limit ((i : Int) - 1 + 1) ∧ D56 = (if ((i : Int) - 1 + 1) % 4 = 0 then asksR (Rt xs limit ((i : Int) - 1 + 1)) else []) ∧ D59 = 0 := by simpa using hT9
     rw [Int.sub_add_cancel] at hT1 hT2
     have hlen9 : ((i : Int) % 4 = 0 ∧ D56.length = 2) ∨ (¬ (i : Int) % 4 = 0 ∧ D56.length = 0) := by
      rw [hT2]
      by_cases hm9 : (i : Int) % 4 = 0
      · rw [if_pos hm9]; exact .inl ⟨hm9, Rt_asks⟩
      · rw [if_neg hm9]; exact .inr ⟨hm9, rfl⟩
     exact absurd hT3 h81
    ·
     have hT9 := hlaw53.trans (hinv0.2.2 ▸ rtick_wait (by omega) (by omega) (by omega))
     obtain ⟨hT1, hT2, hT3⟩ : D54 = Rt xs limit ((i : Int) - 1 + 1) ∧ D56 = (if ((i : Int) - 1 + 1) % 4 = 0 then asksR (Rt xs limit ((i : Int) - 1 + 1)) else []) ∧ D59 = 0 := by simpa using hT9
     rw [Int.sub_add_cancel] at hT1 hT2
     have hlen9 : ((i : Int) % 4 = 0 ∧ D56.length = 2) ∨ (¬ (i : Int) % 4 = 0 ∧ D56.length = 0) := by
      rw [hT2]
      by_cases hm9 : (i : Int) % 4 = 0
      · rw [if_pos hm9]; exact .inl ⟨hm9, Rt_asks⟩
      · rw [if_neg hm9]; exact .inr ⟨hm9, rfl⟩
     refine qP 1 (sq 4 22) [(1, .I limit), (8, .P b42 0), (11, .I i), (12, .P b78 0), (13, .slice a57 D56.length c58), (69, .bool false), (70, .I i)] ?_
     refine RW.pv (κ := .seq) (d := some 71) (r := (sq 5 22)) (v := .I ((i : Int).tmod 4)) (v' := .I ((i : Int) % 4)) (by as_aux_lemma => kernel_rfl) (rem_id (by omega)) ?_
     refine qP 2 (sq 7 22) [(1, .I limit), (8, .P b42 0), (11, .I i), (12, .P b78 0), (13, .slice a57 D56.length c58), (69, .bool false), (73, .bool (((i : Int) % 4) == 0))] ?_
     refine tE (fun b_ => [(1, .I limit), (8, .P b42 0), (11, .I i), (12, .P b78 0), (13, .slice a57 D56.length c58), (69, .bool false), (73, .bool b_)]) ((i : Int) % 4) 0 (fun h82 => ?_) (fun h82 => ?_)
     ·
      refine qP 6 (sq 13 22) [(1, .I limit), (8, .P b42 0), (11, .I i), (12, .P b78 0), (13, .slice a57 D56.length c58), (79, .bool (((D56.length : Nat) : Int) != 2))] ?_
      refine tN (fun b_ => [(1, .I limit), (8, .P b42 0), (11, .I i), (12, .P b78 0), (13, .slice a57 D56.length c58), (79, .bool b_)]) ((D56.length : Nat) : Int) 2 (fun h83 => ?_) (fun h83 => ?_)
      ·
       omega
      ·
       refine qP 1 (sq 14 22) [(1, .I limit), (8, .P b42 0), (11, .I i), (12, .P b78 0), (13, .slice a57 D56.length c58), (79, .bool false), (80, .I i)] ?_
       refine RW.pv (κ := .seq) (d := some 81) (r := (sq 15 22)) (v := .I ((i : Int).tmod 4)) (v' := .I ((i : Int) % 4)) (by as_aux_lemma => kernel_rfl) (rem_id (by omega)) ?_
       refine qP 2 (sq 17 22) [(1, .I limit), (8, .P b42 0), (11, .I i), (12, .P b78 0), (13, .slice a57 D56.length c58), (79, .bool false), (83, .bool (((i : Int) % 4) != 0))] ?_
       refine tN (fun b_ => [(1, .I limit), (8, .P b42 0), (11, .I i), (12, .P b78 0), (13, .slice a57 D56.length c58), (79, .bool false), (83, .bool b_)]) ((i : Int) % 4) 0 (fun h84 => ?_) (fun h84 => ?_)
       ·
        refine qF 5 [(1, .I limit), (8, .P b42 0), (11, .I i), (12, .P b78 0), (88, .bool (((D56.length : Nat) : Int) != 0))] ?_
        refine qN ((D56.length : Nat) : Int) 0 (fun h85 => ?_) (fun h85 => ?_)
        ·
         omega
        ·
         refine qR 1 [.c [6, 0, 1, 0, 0, 1, 0, 0, 2], .b 1, .c [6, 0, 1, 0, 0, 2], .l [6, 0, 1, 0, 0], .b 0, .c [7]] [(1, .I limit), (8, .P b42 0), (11, .I i), (12, .P b78 0)] ?_
         refine qG (sq 0 2) ?_
         refine qL .seq 89 (sq 1 2) 107 b78 0 0 (.agg (rdV D54 a6q71 k6q71 a3q62 k3q62 a4q62 k4q62).toArray) (H.cells 0 rfl) ?_
         refine RW.store (d := none) (r := (sq 2 2)) (T := 107) (b := b42) (k := 0) (v := .agg (rdV D54 a6q71 k6q71 a3q62 k3q62 a4q62 k4q62).toArray) (c' := (rdV D54 a6q71 k6q71 a3q62 k3q62 a4q62 k4q62).toArray) (M' := [(b78, .cells (rdV D54 a6q71 k6q71 a3q62 k3q62 a4q62 k4q62).toArray 107 (0, 0)), (b42, .cells (rdV D54 a6q71 k6q71 a3q62 k3q62 a4q62 k4q62).toArray 107 (0, 0))]) (by as_aux_lemma => kernel_rfl) H 1 rfl (by as_aux_lemma => kernel_rfl) (by as_aux_lemma => kernel_rfl) ?_
         intro w86 H
         refine qF 0 [(1, .I limit), (8, .P b42 0), (11, .I i)] ?_
         refine qR 1 [.c [6, 0, 1, 0, 0, 2], .l [6, 0, 1, 0, 0], .b 0, .c [7]] [(1, .I limit), (8, .P b42 0), (11, .I i)] ?_
         refine qG (sq 0 3) ?_
         refine qP 1 (sq 1 3) [(1, .I limit), (8, .P b42 0), (11, .I i), (59, .I i)] ?_
         refine qI .seq 60 (sq 2 3) ((i : Int) + 1) ?_
         refine qF 1 [(1, .I limit), (8, .P b42 0), (11, .I ((i : Int) + 1))] ?_
         have H := H.pick [3, 2, 1] (G' := [Rp (Shape.slice (Shape.int .i64)) [.slice a6q71 D54.object.nodes.length k6q71] D54.object.nodes, Rp (Shape.slice pcS) [.slice a3q62 D54.pieces.length k3q62] D54.pieces, Rp (Shape.slice (Shape.int .i64)) [.slice a4q62 D54.bad.length k4q62] D54.bad]) rfl
         have H := H.frontM 1 (M' := [(b42, .cells (rdV D54 a6q71 k6q71 a3q62 k3q62 a4q62 k4q62).toArray 107 (0, 0)), (b78, .cells (rdV D54 a6q71 k6q71 a3q62 k3q62 a4q62 k4q62).toArray 107 (0, 0))]) rfl
         have H := H.drop (M' := [(b42, .cells (rdV D54 a6q71 k6q71 a3q62 k3q62 a4q62 k4q62).toArray 107 (0, 0))]) (W' := []) (by repeat (first | exact List.Sublist.refl _ | apply List.Sublist.cons_cons | apply List.Sublist.cons)) (by repeat (first | exact List.Sublist.refl _ | apply List.Sublist.cons_cons | apply List.Sublist.cons))
         exact WK.back (hback48 (i + 1, D54, a6q71, k6q71, a3q62, k3q62, a4q62, k4q62) _ ⟨H, by omega, by omega, by rw [hT1]; congr 1; omega⟩ (by simp only []; omega)) (by as_aux_lemma => kernel_rfl)
       ·
        refine qF 5 [(1, .I limit), (8, .P b42 0), (11, .I i), (12, .P b78 0), (88, .bool false)] ?_
        refine qR 2 [.c [6, 0, 1, 0, 0, 1, 0, 0, 2], .b 1, .c [6, 0, 1, 0, 0, 2], .l [6, 0, 1, 0, 0], .b 0, .c [7]] [(1, .I limit), (8, .P b42 0), (11, .I i), (12, .P b78 0)] ?_
        refine qG (sq 0 2) ?_
        refine qL .seq 89 (sq 1 2) 107 b78 0 0 (.agg (rdV D54 a6q71 k6q71 a3q62 k3q62 a4q62 k4q62).toArray) (H.cells 0 rfl) ?_
        refine RW.store (d := none) (r := (sq 2 2)) (T := 107) (b := b42) (k := 0) (v := .agg (rdV D54 a6q71 k6q71 a3q62 k3q62 a4q62 k4q62).toArray) (c' := (rdV D54 a6q71 k6q71 a3q62 k3q62 a4q62 k4q62).toArray) (M' := [(b78, .cells (rdV D54 a6q71 k6q71 a3q62 k3q62 a4q62 k4q62).toArray 107 (0, 0)), (b42, .cells (rdV D54 a6q71 k6q71 a3q62 k3q62 a4q62 k4q62).toArray 107 (0, 0))]) (by as_aux_lemma => kernel_rfl) H 1 rfl (by as_aux_lemma => kernel_rfl) (by as_aux_lemma => kernel_rfl) ?_
        intro w87 H
        refine qF 0 [(1, .I limit), (8, .P b42 0), (11, .I i)] ?_
        refine qR 1 [.c [6, 0, 1, 0, 0, 2], .l [6, 0, 1, 0, 0], .b 0, .c [7]] [(1, .I limit), (8, .P b42 0), (11, .I i)] ?_
        refine qG (sq 0 3) ?_
        refine qP 1 (sq 1 3) [(1, .I limit), (8, .P b42 0), (11, .I i), (59, .I i)] ?_
        refine qI .seq 60 (sq 2 3) ((i : Int) + 1) ?_
        refine qF 1 [(1, .I limit), (8, .P b42 0), (11, .I ((i : Int) + 1))] ?_
        have H := H.pick [3, 2, 1] (G' := [Rp (Shape.slice (Shape.int .i64)) [.slice a6q71 D54.object.nodes.length k6q71] D54.object.nodes, Rp (Shape.slice pcS) [.slice a3q62 D54.pieces.length k3q62] D54.pieces, Rp (Shape.slice (Shape.int .i64)) [.slice a4q62 D54.bad.length k4q62] D54.bad]) rfl
        have H := H.frontM 1 (M' := [(b42, .cells (rdV D54 a6q71 k6q71 a3q62 k3q62 a4q62 k4q62).toArray 107 (0, 0)), (b78, .cells (rdV D54 a6q71 k6q71 a3q62 k3q62 a4q62 k4q62).toArray 107 (0, 0))]) rfl
        have H := H.drop (M' := [(b42, .cells (rdV D54 a6q71 k6q71 a3q62 k3q62 a4q62 k4q62).toArray 107 (0, 0))]) (W' := []) (by repeat (first | exact List.Sublist.refl _ | apply List.Sublist.cons_cons | apply List.Sublist.cons)) (by repeat (first | exact List.Sublist.refl _ | apply List.Sublist.cons_cons | apply List.Sublist.cons))
        exact WK.back (hback48 (i + 1, D54, a6q71, k6q71, a3q62, k3q62, a4q62, k4q62) _ ⟨H, by omega, by omega, by rw [hT1]; congr 1; omega⟩ (by simp only []; omega)) (by as_aux_lemma => kernel_rfl)
     ·
      refine qP 7 (sq 14 22) [(1, .I limit), (8, .P b42 0), (11, .I i), (12, .P b78 0), (13, .slice a57 D56.length c58), (79, .bool false), (80, .I i)] ?_
      refine RW.pv (κ := .seq) (d := some 81) (r := (sq 15 22)) (v := .I ((i : Int).tmod 4)) (v' := .I ((i : Int) % 4)) (by as_aux_lemma => kernel_rfl) (rem_id (by omega)) ?_
      refine qP 2 (sq 17 22) [(1, .I limit), (8, .P b42 0), (11, .I i), (12, .P b78 0), (13, .slice a57 D56.length c58), (79, .bool false), (83, .bool (((i : Int) % 4) != 0))] ?_
      refine tN (fun b_ => [(1, .I limit), (8, .P b42 0), (11, .I i), (12, .P b78 0), (13, .slice a57 D56.length c58), (79, .bool false), (83, .bool b_)]) ((i : Int) % 4) 0 (fun h88 => ?_) (fun h88 => ?_)
      ·
       refine qF 5 [(1, .I limit), (8, .P b42 0), (11, .I i), (12, .P b78 0), (88, .bool (((D56.length : Nat) : Int) != 0))] ?_
       refine qN ((D56.length : Nat) : Int) 0 (fun h89 => ?_) (fun h89 => ?_)
       ·
        omega
       ·
        refine qR 1 [.c [6, 0, 1, 0, 0, 1, 0, 0, 2], .b 1, .c [6, 0, 1, 0, 0, 2], .l [6, 0, 1, 0, 0], .b 0, .c [7]] [(1, .I limit), (8, .P b42 0), (11, .I i), (12, .P b78 0)] ?_
        refine qG (sq 0 2) ?_
        refine qL .seq 89 (sq 1 2) 107 b78 0 0 (.agg (rdV D54 a6q71 k6q71 a3q62 k3q62 a4q62 k4q62).toArray) (H.cells 0 rfl) ?_
        refine RW.store (d := none) (r := (sq 2 2)) (T := 107) (b := b42) (k := 0) (v := .agg (rdV D54 a6q71 k6q71 a3q62 k3q62 a4q62 k4q62).toArray) (c' := (rdV D54 a6q71 k6q71 a3q62 k3q62 a4q62 k4q62).toArray) (M' := [(b78, .cells (rdV D54 a6q71 k6q71 a3q62 k3q62 a4q62 k4q62).toArray 107 (0, 0)), (b42, .cells (rdV D54 a6q71 k6q71 a3q62 k3q62 a4q62 k4q62).toArray 107 (0, 0))]) (by as_aux_lemma => kernel_rfl) H 1 rfl (by as_aux_lemma => kernel_rfl) (by as_aux_lemma => kernel_rfl) ?_
        intro w90 H
        refine qF 0 [(1, .I limit), (8, .P b42 0), (11, .I i)] ?_
        refine qR 1 [.c [6, 0, 1, 0, 0, 2], .l [6, 0, 1, 0, 0], .b 0, .c [7]] [(1, .I limit), (8, .P b42 0), (11, .I i)] ?_
        refine qG (sq 0 3) ?_
        refine qP 1 (sq 1 3) [(1, .I limit), (8, .P b42 0), (11, .I i), (59, .I i)] ?_
        refine qI .seq 60 (sq 2 3) ((i : Int) + 1) ?_
        refine qF 1 [(1, .I limit), (8, .P b42 0), (11, .I ((i : Int) + 1))] ?_
        have H := H.pick [3, 2, 1] (G' := [Rp (Shape.slice (Shape.int .i64)) [.slice a6q71 D54.object.nodes.length k6q71] D54.object.nodes, Rp (Shape.slice pcS) [.slice a3q62 D54.pieces.length k3q62] D54.pieces, Rp (Shape.slice (Shape.int .i64)) [.slice a4q62 D54.bad.length k4q62] D54.bad]) rfl
        have H := H.frontM 1 (M' := [(b42, .cells (rdV D54 a6q71 k6q71 a3q62 k3q62 a4q62 k4q62).toArray 107 (0, 0)), (b78, .cells (rdV D54 a6q71 k6q71 a3q62 k3q62 a4q62 k4q62).toArray 107 (0, 0))]) rfl
        have H := H.drop (M' := [(b42, .cells (rdV D54 a6q71 k6q71 a3q62 k3q62 a4q62 k4q62).toArray 107 (0, 0))]) (W' := []) (by repeat (first | exact List.Sublist.refl _ | apply List.Sublist.cons_cons | apply List.Sublist.cons)) (by repeat (first | exact List.Sublist.refl _ | apply List.Sublist.cons_cons | apply List.Sublist.cons))
        exact WK.back (hback48 (i + 1, D54, a6q71, k6q71, a3q62, k3q62, a4q62, k4q62) _ ⟨H, by omega, by omega, by rw [hT1]; congr 1; omega⟩ (by simp only []; omega)) (by as_aux_lemma => kernel_rfl)
      ·
       refine qF 5 [(1, .I limit), (8, .P b42 0), (11, .I i), (12, .P b78 0), (88, .bool false)] ?_
       refine qR 2 [.c [6, 0, 1, 0, 0, 1, 0, 0, 2], .b 1, .c [6, 0, 1, 0, 0, 2], .l [6, 0, 1, 0, 0], .b 0, .c [7]] [(1, .I limit), (8, .P b42 0), (11, .I i), (12, .P b78 0)] ?_
       refine qG (sq 0 2) ?_
       refine qL .seq 89 (sq 1 2) 107 b78 0 0 (.agg (rdV D54 a6q71 k6q71 a3q62 k3q62 a4q62 k4q62).toArray) (H.cells 0 rfl) ?_
       refine RW.store (d := none) (r := (sq 2 2)) (T := 107) (b := b42) (k := 0) (v := .agg (rdV D54 a6q71 k6q71 a3q62 k3q62 a4q62 k4q62).toArray) (c' := (rdV D54 a6q71 k6q71 a3q62 k3q62 a4q62 k4q62).toArray) (M' := [(b78, .cells (rdV D54 a6q71 k6q71 a3q62 k3q62 a4q62 k4q62).toArray 107 (0, 0)), (b42, .cells (rdV D54 a6q71 k6q71 a3q62 k3q62 a4q62 k4q62).toArray 107 (0, 0))]) (by as_aux_lemma => kernel_rfl) H 1 rfl (by as_aux_lemma => kernel_rfl) (by as_aux_lemma => kernel_rfl) ?_
       intro w91 H
       refine qF 0 [(1, .I limit), (8, .P b42 0), (11, .I i)] ?_
       refine qR 1 [.c [6, 0, 1, 0, 0, 2], .l [6, 0, 1, 0, 0], .b 0, .c [7]] [(1, .I limit), (8, .P b42 0), (11, .I i)] ?_
       refine qG (sq 0 3) ?_
       refine qP 1 (sq 1 3) [(1, .I limit), (8, .P b42 0), (11, .I i), (59, .I i)] ?_
       refine qI .seq 60 (sq 2 3) ((i : Int) + 1) ?_
       refine qF 1 [(1, .I limit), (8, .P b42 0), (11, .I ((i : Int) + 1))] ?_
       have H := H.pick [3, 2, 1] (G' := [Rp (Shape.slice (Shape.int .i64)) [.slice a6q71 D54.object.nodes.length k6q71] D54.object.nodes, Rp (Shape.slice pcS) [.slice a3q62 D54.pieces.length k3q62] D54.pieces, Rp (Shape.slice (Shape.int .i64)) [.slice a4q62 D54.bad.length k4q62] D54.bad]) rfl
       have H := H.frontM 1 (M' := [(b42, .cells (rdV D54 a6q71 k6q71 a3q62 k3q62 a4q62 k4q62).toArray 107 (0, 0)), (b78, .cells (rdV D54 a6q71 k6q71 a3q62 k3q62 a4q62 k4q62).toArray 107 (0, 0))]) rfl
       have H := H.drop (M' := [(b42, .cells (rdV D54 a6q71 k6q71 a3q62 k3q62 a4q62 k4q62).toArray 107 (0, 0))]) (W' := []) (by repeat (first | exact List.Sublist.refl _ | apply List.Sublist.cons_cons | apply List.Sublist.cons)) (by repeat (first | exact List.Sublist.refl _ | apply List.Sublist.cons_cons | apply List.Sublist.cons))
       exact WK.back (hback48 (i + 1, D54, a6q71, k6q71, a3q62, k3q62, a4q62, k4q62) _ ⟨H, by omega, by omega, by rw [hT1]; congr 1; omega⟩ (by simp only []; omega)) (by as_aux_lemma => kernel_rfl)
   ·
    refine qR 2 [.c [7, 0], .c [8]] [(8, .P b42 0)] ?_
    refine qG (sq 0 10) ?_
    refine qL .seq 91 (sq 1 10) 107 b42 0 0 (.agg (rdV D a06q k06q a3q k3q a4q k4q).toArray) (H.cells 0 rfl) ?_
    -- call
    refine qK .seq (some 92) (sq 2 10) 50 #[.agg (rdV D a06q k06q a3q k3q a4q k4q).toArray] (ftick_spec (r := D) (rd_mkB (by unfold rdB; omega) (H.rp 0 rfl) (H.rp 1 rfl) (H.rp 2 rfl)) (by omega) (by omega)) ?_
    rintro _ w92 hE93 ⟨cs96, a98, c99, D95, D97, D100, rfl, hr101, hr102, hlaw94⟩
    have H0s := H
    obtain ⟨cs0q103, a3q103, k3q103, a4q103, k4q103, rfl, hf104, hf105, hf106, hf107, hf108, hf109, hf110, hf111⟩ := rd_open hr101
    obtain ⟨a6q112, k6q112, rfl, hf113, hf114, hf115, hf116, hf117, hf118⟩ := obj_open hf104
    have H := H.addN hE93 (F := Rp (Shape.slice (Shape.int .i64)) [.slice a6q112 D95.object.nodes.length k6q112] D95.object.nodes) hf118
    have H := H.add (F := Rp (Shape.slice pcS) [.slice a3q103 D95.pieces.length k3q103] D95.pieces) ((H0s.addN hE93 (F := Rp (Shape.slice pcS) [.slice a3q103 D95.pieces.length k3q103] D95.pieces) hf107).rp 0 rfl)
    have H := H.add (F := Rp (Shape.slice (Shape.int .i64)) [.slice a4q103 D95.bad.length k4q103] D95.bad) ((H0s.addN hE93 (F := Rp (Shape.slice (Shape.int .i64)) [.slice a4q103 D95.bad.length k4q103] D95.bad) hf108).rp 0 rfl)
    have H := H.add (F := Rp (Shape.slice msgS) [.slice a98 D97.length c99] D97) ((H0s.addN hE93 (F := Rp (Shape.slice msgS) [.slice a98 D97.length c99] D97) hr102).rp 0 rfl)
    refine qP 4 (sq 6 10) [(93, .agg (rdV D95 a6q112 k6q112 a3q103 k3q103 a4q103 k4q103).toArray), (94, .slice a98 D97.length c99), (95, .I D100)] ?_
    refine qB .seq 15 (sq 7 10) ((rdZ).toArray) 107 H ?_
    intro b119 w120 H
    refine RW.store (d := none) (r := (sq 8 10)) (T := 107) (b := b119) (k := 0) (v := .agg (rdV D95 a6q112 k6q112 a3q103 k3q103 a4q103 k4q103).toArray) (c' := (rdV D95 a6q112 k6q112 a3q103 k3q103 a4q103 k4q103).toArray) (M' := [(b119, .cells (rdV D95 a6q112 k6q112 a3q103 k3q103 a4q103 k4q103).toArray 107 (0, 0)), (b42, .cells (rdV D a06q k06q a3q k3q a4q k4q).toArray 107 (0, 0))]) (by as_aux_lemma => kernel_rfl) H 0 rfl (by as_aux_lemma => kernel_rfl) (by as_aux_lemma => kernel_rfl) ?_
    intro w121 H
    refine qF 2 [(16, .slice a98 D97.length c99), (17, .I D100)] ?_
    refine qR 1 [.c [8, 0], .c [9]] [(16, .slice a98 D97.length c99), (17, .I D100)] ?_
    refine qG (sq 0 11) ?_
    refine qP 3 (sq 3 11) [(16, .slice a98 D97.length c99), (98, .bool (D100 == 2))] ?_
    refine tE (fun b_ => [(16, .slice a98 D97.length c99), (98, .bool b_)]) D100 2 (fun h122 => ?_) (fun h122 => ?_)
    ·
     have hT9 : (D95, D97, D100) = (({ Rt xs limit (limit + 1) with done := 2 } : Rd), ([] : List Msg), (2 : Int)) := hlaw94.trans (by rw [hinv0.2.2, show (i : Int) - 1 = limit by omega]; exact rtick_last (by omega) (by omega))
     obtain ⟨hT1, hT2, hT3⟩ : D95 = ({ Rt xs limit (limit + 1) with done := 2 } : Rd) ∧ D97 = [] ∧ D100 = 2 := by simpa using hT9
     have hlen9 : D97.length = 0 := by rw [hT2]; rfl
     refine qP 5 (sq 8 11) [(103, .bool (((D97.length : Nat) : Int) == 0))] ?_
     refine tE (fun b_ => [(103, .bool b_)]) ((D97.length : Nat) : Int) 0 (fun h123 => ?_) (fun h123 => ?_)
     ·
      refine qK .seq (some 104) (sq 9 11) 45 #[] (heads21_spec (S := fun _ => True)) ?_
      rintro _ w124 hE125 rfl
      have H := H.ext hE125
      refine qF 2 [(4, .bool true)] ?_
      refine qT (.bool true) Try.func15 ?_
      exact ⟨_, rfl, H.done, rfl⟩
     ·
      omega
    ·
     have hT9 : (D95, D97, D100) = (({ Rt xs limit (limit + 1) with done := 2 } : Rd), ([] : List Msg), (2 : Int)) := hlaw94.trans (by rw [hinv0.2.2, show (i : Int) - 1 = limit by omega]; exact rtick_last (by omega) (by omega))
     obtain ⟨hT1, hT2, hT3⟩ : D95 = ({ Rt xs limit (limit + 1) with done := 2 } : Rd) ∧ D97 = [] ∧ D100 = 2 := by simpa using hT9
     have hlen9 : D97.length = 0 := by rw [hT2]; rfl
     exact absurd hT3 h122


end Go.Proofs.Ytppcdmbkgficiaa
