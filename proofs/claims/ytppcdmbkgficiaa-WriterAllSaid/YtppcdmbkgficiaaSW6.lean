import Derived.Test.YtppcdmbkgficiaaSW5
namespace Go.Proofs.Ytppcdmbkgficiaa
open Go.BX

theorem encode_bad {S : Nat → Prop} {w : World} {xs : List (BitVec 8)} {a : Option Addr} {c : Nat} (k n : Int) (h : SB.rep S w [.slice a xs.length c] xs) (hb : ¬ (xs.length ≤ 65536 ∧ 1 ≤ k ∧ k ≤ n ∧ n ≤ 255)) :
 Calls Try.prog 29 #[.slice a xs.length c, .I k, .I n] w (Ret fun v w' => Ext w w' ∧ v = .tuple #[.slice none 0 0, .I 2]) := by
 refine qS (fn := Try.f29) (n := 77) (σ := [(0, .slice a xs.length c), (1, .I k), (2, .I n)]) Try.func29 ?_
 have H := Hp.startF (w := w) (S := S) (G := [Rp SB [.slice a xs.length c] xs]) (.rp h .nil)
 refine qR 3 [.c [1, 0], .c [2]] [(0, .slice a xs.length c), (1, .I k), (2, .I n)] ?_
 refine qG (sq 0 10) ?_
 refine qP 4 (sq 4 10) [(0, .slice a xs.length c), (1, .I k), (2, .I n), (20, .I ((xs.length : Nat) : Int)), (21, .I k), (22, .I n)] ?_
 refine qK .seq (some 23) (sq 5 10) 66 #[.I ((xs.length : Nat) : Int), .I k, .I n] (sizes_bad (S := fun _ => True) ((xs.length : Nat) : Int) k n (by omega)) ?_
 rintro _ w1 hE2 rfl
 have H := H.ext hE2
 refine qF 5 [(0, .slice a xs.length c), (1, .I k), (2, .I n), (8, .I 0), (9, .I 2)] ?_
 refine qR 6 [.c [2, 0, 1, 0, 1], .c [3]] [(6, .slice none 0 0), (7, .I 2)] ?_
 refine qT (.tuple #[.slice none 0 0, .I 2]) Try.func29 ?_
 exact ⟨_, rfl, H.done, rfl⟩

theorem enc_all {xs : List (BitVec 8)} {k n : Nat} : ∀ d ∈ enc xs k n, d.length = lenOf xs.length k := by
 intro d hd
 unfold enc at hd
 rcases List.mem_append.1 hd with h | h
 · exact dataOf_all _ _ _ d h
 · obtain ⟨j, _, rfl⟩ := List.mem_map.1 h
   exact mixAll_len List.length_replicate (dataOf_all _ _ _)

theorem set1_spec {S : Nat → Prop} {w : World} (i : Int) :
 Calls Try.prog 64 #[.I i] w (Ret fun v w' => Ext w w' ∧ v = .bool true) := by
 refine qS (fn := Try.f64) (n := 3) (σ := [(0, .I i)]) Try.func64 ?_
 have H := Hp.startF (w := w) (S := S) (G := []) .nil
 refine qR 4 [.c [2]] [(2, .bool true)] ?_
 refine qT (.bool true) Try.func64 ?_
 exact ⟨_, rfl, H.done, rfl⟩

theorem set2_spec {S : Nat → Prop} {w : World} (i : Int) :
 Calls Try.prog 65 #[.I i] w (Ret fun v w' => Ext w w' ∧ v = .agg ((msgZ).set 0 (.I 11)).toArray) := by
 refine qS (fn := Try.f65) (n := 4) (σ := [(0, .I i)]) Try.func65 ?_
 have H := Hp.startF (w := w) (S := S) (G := []) .nil
 refine qR 1 [.c [0], .c [1]] [] ?_
 refine qG (sq 0 1) ?_
 refine qB .seq 2 (sq 1 1) ((msgZ).toArray) 57 H ?_
 intro b1 w2 H
 refine qF 0 [(2, .P b1 0)] ?_
 refine qR 1 [.c [1, 0], .c [2]] [(2, .P b1 0)] ?_
 refine qG (sq 0 2) ?_
 refine qP 1 (sq 1 2) [(2, .P b1 0), (3, .agg ((msgZ).set 0 (.I 11)).toArray)] ?_
 refine RW.store (d := none) (r := (sq 2 2)) (T := 57) (b := b1) (k := 0) (v := .agg ((msgZ).set 0 (.I 11)).toArray) (c' := ((msgZ).set 0 (.I 11)).toArray) (M' := [(b1, .cells ((msgZ).set 0 (.I 11)).toArray 57 (0, 0))]) (by as_aux_lemma => kernel_rfl) H 0 rfl (by as_aux_lemma => kernel_rfl) (by as_aux_lemma => kernel_rfl) ?_
 intro w3 H
 refine qF 0 [(2, .P b1 0)] ?_
 refine WK.retBy (v := .agg ((msgZ).set 0 (.I 11)).toArray) Try.func65 (by as_aux_lemma => kernel_rfl) (RV.res1 (x := .cell 2 57) (by as_aux_lemma => kernel_rfl) (RV.cell (k := 0) (by as_aux_lemma => kernel_rfl) (H.cells 0 rfl) rfl (by as_aux_lemma => kernel_rfl))) ?_
 exact ⟨_, rfl, H.done, rfl⟩

set_option maxHeartbeats 4000000 in
theorem messages_settle {S : Nat → Prop} {w : World} {W : Wr} {cs : List Value} (hW : wrS.rep S w cs W) (hR : W.heads.length = W.chunks.length ∧ W.heads.length = W.nodes.length) (hn : W.heads.length ≤ 1000000) :
 Calls Try.prog 63 #[.agg cs.toArray, .func (.func 64) #[] #[], .func (.func 65) #[] #[]] w (Ret fun v w' => Ext w w' ∧ ∃ (a : Option Addr) (c : Nat), v = .slice a (settlesTo W W.heads.length).length c ∧ (Shape.slice msgS).rep (Nw S w) w' [.slice a (settlesTo W W.heads.length).length c] (settlesTo W W.heads.length)) := by
 obtain ⟨a3W, k3W, a4W, k4W, a5W, k5W, a6W, k6W, rfl, h0W, h1W, h2W, h3W, h4W, h5W, h6W, h7W, h8W, h9W⟩ := wr_open hW
 refine qS (fn := Try.f63) (n := 39) (σ := [(0, .agg (wrV W a3W k3W a4W k4W a5W k5W a6W k6W).toArray), (1, .func (.func 64) #[] #[]), (2, .func (.func 65) #[] #[])]) Try.func63 ?_
 have H := Hp.startF (w := w) (S := S) (G := [Rp (Shape.slice hdrS) [.slice a3W W.heads.length k3W] W.heads, Rp (Shape.slice SB) [.slice a4W W.chunks.length k4W] W.chunks, Rp (Shape.slice (Shape.int .i64)) [.slice a5W W.nodes.length k5W] W.nodes, Rp (Shape.slice (Shape.int .i64)) [.slice a6W W.acks.length k6W] W.acks]) (.rp h3W (.rp h4W (.rp h5W (.rp h6W .nil))))
 refine qR 1 [.c [0], .c [1]] [(0, .agg (wrV W a3W k3W a4W k4W a5W k5W a6W k6W).toArray), (1, .func (.func 64) #[] #[]), (2, .func (.func 65) #[] #[])] ?_
 refine qG (sq 0 2) ?_
 refine qB .seq 3 (sq 1 2) ((wrV W a3W k3W a4W k4W a5W k5W a6W k6W).toArray) 32 H ?_
 intro b1 w2 H
 refine qF 1 [(1, .func (.func 64) #[] #[]), (2, .func (.func 65) #[] #[]), (3, .P b1 0)] ?_
 refine qR 4 [.c [2, 0, 0], .c [2, 0, 1], .c [3]] [(1, .func (.func 64) #[] #[]), (2, .func (.func 65) #[] #[]), (3, .P b1 0), (7, .slice none 0 0)] ?_
 refine qG (sq 0 4) ?_
 refine qP 1 (sq 1 4) [(1, .func (.func 64) #[] #[]), (2, .func (.func 65) #[] #[]), (3, .P b1 0), (7, .slice none 0 0), (11, .P b1 3)] ?_
 refine qL .seq 12 (sq 2 4) 28 b1 3 3 (.slice a3W W.heads.length k3W) (H.cells 0 rfl) ?_
 refine qF 2 [(1, .func (.func 64) #[] #[]), (2, .func (.func 65) #[] #[]), (3, .P b1 0), (7, .slice none 0 0), (12, .slice a3W W.heads.length k3W), (13, .I ((W.heads.length : Nat) : Int)), (14, .I 0)] ?_
 refine qR 1 [.c [2, 0, 1, 0], .b 0, .c [3]] [(1, .func (.func 64) #[] #[]), (2, .func (.func 65) #[] #[]), (3, .P b1 0), (7, .slice none 0 0), (12, .slice a3W W.heads.length k3W), (13, .I ((W.heads.length : Nat) : Int)), (14, .I 0)] ?_
 have H := H.ownNil msgS 57
 refine WK.loop (α := Nat × Option Addr × Nat) (b := cd Try.prog 63 [2, 0, 1, 0, 0]) (by as_aux_lemma => kernel_rfl) (fun st_ => match st_ with | (i, ao, co) => [(1, .func (.func 64) #[] #[]), (2, .func (.func 65) #[] #[]), (3, .P b1 0), (7, .slice ao (settlesTo W i).length co), (12, .slice a3W W.heads.length k3W), (13, .I ((W.heads.length : Nat) : Int)), (14, .I i)]) (fun st_ w' => match st_ with | (i, ao, co) => Hp w S [] [(b1, .cells (wrV W a3W k3W a4W k4W a5W k5W a6W k6W).toArray 32 (0, 0))] [⟨msgS, 57, .slice ao (settlesTo W i).length co, settlesTo W i⟩] [Rp (Shape.slice hdrS) [.slice a3W W.heads.length k3W] W.heads, Rp (Shape.slice SB) [.slice a4W W.chunks.length k4W] W.chunks, Rp (Shape.slice (Shape.int .i64)) [.slice a5W W.nodes.length k5W] W.nodes, Rp (Shape.slice (Shape.int .i64)) [.slice a6W W.acks.length k6W] W.acks] w' ∧ i ≤ W.heads.length) (fun st_ => match st_ with | (i, ao, co) => W.heads.length - i) (0, none, 0) ⟨H, Nat.zero_le _⟩ (rfl) ?_
 rintro ⟨i, ao, co⟩ w4 ⟨H, hinv0⟩ hback3
 refine qR 3 [.c [2, 0, 1, 0, 0, 1, 0], .c [2, 0, 1, 0, 0, 2], .l [2, 0, 1, 0, 0], .b 0, .c [3]] [(1, .func (.func 64) #[] #[]), (2, .func (.func 65) #[] #[]), (3, .P b1 0), (7, .slice ao (settlesTo W i).length co), (12, .slice a3W W.heads.length k3W), (13, .I ((W.heads.length : Nat) : Int)), (14, .I i), (15, .bool (decide (((i : Int) : Int) < ((W.heads.length : Nat) : Int))))] ?_
 refine qD (((i : Int) : Int) < ((W.heads.length : Nat) : Int)) (fun h5 => ?_) (fun h5 => ?_)
 ·
  refine qR 4 [.c [2, 0, 1, 0, 0, 2, 0, 0, 0], .c [2, 0, 1, 0, 0, 2, 0, 0, 1], .b 1, .c [2, 0, 1, 0, 0, 3], .l [2, 0, 1, 0, 0], .b 0, .c [3]] [(1, .func (.func 64) #[] #[]), (2, .func (.func 65) #[] #[]), (3, .P b1 0), (7, .slice ao (settlesTo W i).length co), (12, .slice a3W W.heads.length k3W), (13, .I ((W.heads.length : Nat) : Int)), (14, .I i)] ?_
  refine qG (sq 0 6) ?_
  refine qP 1 (sq 1 6) [(1, .func (.func 64) #[] #[]), (2, .func (.func 65) #[] #[]), (3, .P b1 0), (7, .slice ao (settlesTo W i).length co), (12, .slice a3W W.heads.length k3W), (13, .I ((W.heads.length : Nat) : Int)), (14, .I i), (16, .I i)] ?_
  have hx6 : i < W.heads.length := by omega
  refine qX .seq 17 (sq 2 6) 28 53 (i : Int) hdrS (W.heads[i]) H 0 rfl i (by omega) (List.getElem?_eq_getElem hx6) ?_
  intro b7 o8 es9 hr10 H
  obtain ⟨cs0q11, rfl, hf12, hf13, hf14, hf15⟩ := hdr_open hr10
  obtain ⟨rfl, hf17, hf18, hf19⟩ := cid_open hf12
  refine qL .seq 18 (sq 3 6) 53 b7 o8 0 (.agg (hdrV (W.heads[i])).toArray) (H.fc 0 rfl) ?_
  refine qB .seq 9 (sq 4 6) #[.int .u64 0, .I 0, .int .u64 0, .I 0, .I 0, .I 0, .int .u32 0] 53 H ?_
  intro b20 w21 H
  refine qP 1 (sq 5 6) [(1, .func (.func 64) #[] #[]), (2, .func (.func 65) #[] #[]), (3, .P b1 0), (7, .slice ao (settlesTo W i).length co), (8, .I i), (9, .P b20 0), (12, .slice a3W W.heads.length k3W), (13, .I ((W.heads.length : Nat) : Int)), (14, .I i), (18, .agg (hdrV (W.heads[i])).toArray)] ?_
  refine RW.store (d := none) (r := (sq 6 6)) (T := 53) (b := b20) (k := 0) (v := .agg (hdrV (W.heads[i])).toArray) (c' := (hdrV (W.heads[i])).toArray) (M' := [(b20, .cells (hdrV (W.heads[i])).toArray 53 (0, 0)), (b1, .cells (wrV W a3W k3W a4W k4W a5W k5W a6W k6W).toArray 32 (0, 0))]) (by as_aux_lemma => kernel_rfl) H 0 rfl (by as_aux_lemma => kernel_rfl) (by as_aux_lemma => kernel_rfl) ?_
  intro w22 H
  refine qF 0 [(1, .func (.func 64) #[] #[]), (2, .func (.func 65) #[] #[]), (3, .P b1 0), (7, .slice ao (settlesTo W i).length co), (8, .I i), (9, .P b20 0), (12, .slice a3W W.heads.length k3W), (13, .I ((W.heads.length : Nat) : Int)), (14, .I i)] ?_
  refine qR 1 [.c [2, 0, 1, 0, 0, 2, 0, 0, 1, 0], .c [2, 0, 1, 0, 0, 2, 0, 0, 2], .b 1, .c [2, 0, 1, 0, 0, 3], .l [2, 0, 1, 0, 0], .b 0, .c [3]] [(1, .func (.func 64) #[] #[]), (2, .func (.func 65) #[] #[]), (3, .P b1 0), (7, .slice ao (settlesTo W i).length co), (8, .I i), (9, .P b20 0), (12, .slice a3W W.heads.length k3W), (13, .I ((W.heads.length : Nat) : Int)), (14, .I i)] ?_
  refine qG (sq 0 3) ?_
  refine qP 2 (sq 2 3) [(1, .func (.func 64) #[] #[]), (2, .func (.func 65) #[] #[]), (3, .P b1 0), (7, .slice ao (settlesTo W i).length co), (8, .I i), (9, .P b20 0), (12, .slice a3W W.heads.length k3W), (13, .I ((W.heads.length : Nat) : Int)), (14, .I i), (19, .func (.func 64) #[] #[]), (20, .I i)] ?_
  refine qK .seq (some 21) (sq 3 3) 64 #[.I i] (set1_spec (S := fun _ => True) (i : Int)) ?_
  rintro _ w23 hE24 rfl
  have H := H.ext hE24
  refine qF 0 [(1, .func (.func 64) #[] #[]), (2, .func (.func 65) #[] #[]), (3, .P b1 0), (7, .slice ao (settlesTo W i).length co), (8, .I i), (9, .P b20 0), (12, .slice a3W W.heads.length k3W), (13, .I ((W.heads.length : Nat) : Int)), (14, .I i), (21, .bool true)] ?_
  refine qR 2 [.c [2, 0, 1, 0, 0, 2, 0, 0, 2, 0, 0], .c [2, 0, 1, 0, 0, 2, 0, 0, 2, 0, 1], .b 1, .c [2, 0, 1, 0, 0, 3], .l [2, 0, 1, 0, 0], .b 0, .c [3]] [(1, .func (.func 64) #[] #[]), (2, .func (.func 65) #[] #[]), (3, .P b1 0), (7, .slice ao (settlesTo W i).length co), (8, .I i), (9, .P b20 0), (12, .slice a3W W.heads.length k3W), (13, .I ((W.heads.length : Nat) : Int)), (14, .I i)] ?_
  refine qG (sq 0 5) ?_
  refine qP 2 (sq 2 5) [(1, .func (.func 64) #[] #[]), (2, .func (.func 65) #[] #[]), (3, .P b1 0), (7, .slice ao (settlesTo W i).length co), (8, .I i), (9, .P b20 0), (12, .slice a3W W.heads.length k3W), (13, .I ((W.heads.length : Nat) : Int)), (14, .I i), (22, .func (.func 65) #[] #[]), (23, .I i)] ?_
  refine qK .seq (some 24) (sq 3 5) 65 #[.I i] (set2_spec (S := fun _ => True) (i : Int)) ?_
  rintro _ w25 hE26 rfl
  have H := H.ext hE26
  refine qB .seq 10 (sq 4 5) ((msgZ).toArray) 57 H ?_
  intro b27 w28 H
  refine RW.store (d := none) (r := (sq 5 5)) (T := 57) (b := b27) (k := 0) (v := .agg ((msgZ).set 0 (.I 11)).toArray) (c' := ((msgZ).set 0 (.I 11)).toArray) (M' := [(b27, .cells ((msgZ).set 0 (.I 11)).toArray 57 (0, 0)), (b20, .cells (hdrV (W.heads[i])).toArray 53 (0, 0)), (b1, .cells (wrV W a3W k3W a4W k4W a5W k5W a6W k6W).toArray 32 (0, 0))]) (by as_aux_lemma => kernel_rfl) H 0 rfl (by as_aux_lemma => kernel_rfl) (by as_aux_lemma => kernel_rfl) ?_
  intro w29 H
  refine qF 0 [(1, .func (.func 64) #[] #[]), (2, .func (.func 65) #[] #[]), (3, .P b1 0), (7, .slice ao (settlesTo W i).length co), (8, .I i), (9, .P b20 0), (10, .P b27 0), (12, .slice a3W W.heads.length k3W), (13, .I ((W.heads.length : Nat) : Int)), (14, .I i)] ?_
  refine qR 1 [.c [2, 0, 1, 0, 0, 2, 0, 0, 2, 0, 1, 0], .c [2, 0, 1, 0, 0, 2, 0, 0, 2, 0, 2], .b 1, .c [2, 0, 1, 0, 0, 3], .l [2, 0, 1, 0, 0], .b 0, .c [3]] [(1, .func (.func 64) #[] #[]), (2, .func (.func 65) #[] #[]), (3, .P b1 0), (7, .slice ao (settlesTo W i).length co), (8, .I i), (9, .P b20 0), (10, .P b27 0), (12, .slice a3W W.heads.length k3W), (13, .I ((W.heads.length : Nat) : Int)), (14, .I i)] ?_
  refine WK.drawH1 [b27] (.leaf [(0, .qui), (1, .qui), (2, .qui), (3, .qui), (4, .qui), (5, .qui), (6, .qui), (7, .seq), (8, .qui), (9, .seq)]) Try_mixed (by as_aux_lemma => kernel_rfl) (by as_aux_lemma => kernel_rfl) ?_
  intro w30 hw31
  have H := H.draw
  rw [← hw31] at H
  clear hw31
  have hS := Chg.refl w30 [b27]
  refine RG.leaf' [(0, .qui), (1, .qui), (2, .qui), (3, .qui), (4, .qui), (5, .qui), (6, .qui), (7, .seq), (8, .qui), (9, .seq)] (by as_aux_lemma => kernel_rfl) ?_
  refine qHP hS 1 [(1, .qui), (2, .qui), (3, .qui), (4, .qui), (5, .qui), (6, .qui), (7, .seq), (8, .qui), (9, .seq)] [(1, .func (.func 64) #[] #[]), (2, .func (.func 65) #[] #[]), (3, .P b1 0), (7, .slice ao (settlesTo W i).length co), (8, .I i), (9, .P b20 0), (10, .P b27 0), (12, .slice a3W W.heads.length k3W), (13, .I ((W.heads.length : Nat) : Int)), (14, .I i), (25, .P b1 5)] ?_
  refine RH.load (d := some 26) (r := [(2, .qui), (3, .qui), (4, .qui), (5, .qui), (6, .qui), (7, .seq), (8, .qui), (9, .seq)]) (T := 25) (b := b1) (o' := 5) (k := 5) (v := .slice a5W W.nodes.length k5W) (by as_aux_lemma => kernel_rfl) hS (H.cells 2 rfl) (by intro hq; simp only [List.mem_cons, List.not_mem_nil, or_false] at hq; exact H.raws 2 0 rfl rfl (by decide) hq) (by simp) rfl (by as_aux_lemma => kernel_rfl) ?_
  refine qHP hS 1 [(3, .qui), (4, .qui), (5, .qui), (6, .qui), (7, .seq), (8, .qui), (9, .seq)] [(1, .func (.func 64) #[] #[]), (2, .func (.func 65) #[] #[]), (3, .P b1 0), (7, .slice ao (settlesTo W i).length co), (9, .P b20 0), (10, .P b27 0), (12, .slice a3W W.heads.length k3W), (13, .I ((W.heads.length : Nat) : Int)), (14, .I i), (26, .slice a5W W.nodes.length k5W), (27, .I i)] ?_
  have hx32 : i < W.nodes.length := by omega
  refine RH.index (d := some 28) (r := [(4, .qui), (5, .qui), (6, .qui), (7, .seq), (8, .qui), (9, .seq)]) (T := 25) (e := 3) (ik := .i64) (ix := (i : Int)) (sh := (Shape.int .i64)) (x := W.nodes[i]) (by as_aux_lemma => kernel_rfl) hS (by as_aux_lemma => kernel_rfl) H 3 rfl i (by omega) (List.getElem?_eq_getElem hx32) ?_
  intro b33 o34 es35 hr36 H
  have hb37 := Shape.i64_bd hr36
  obtain ⟨rfl, -⟩ := hr36
  refine RH.load (d := some 29) (r := [(5, .qui), (6, .qui), (7, .seq), (8, .qui), (9, .seq)]) (T := 3) (b := b33) (o' := o34) (k := 0) (v := .I (W.nodes[i])) (by as_aux_lemma => kernel_rfl) hS (H.fc 0 rfl) (by intro hq; simp only [List.mem_cons, List.not_mem_nil, or_false] at hq; exact H.fcne 0 rfl 0 rfl hq) (by simp) rfl (by as_aux_lemma => kernel_rfl) ?_
  refine RH.load (d := some 30) (r := [(6, .qui), (7, .seq), (8, .qui), (9, .seq)]) (T := 53) (b := b20) (o' := 0) (k := 0) (v := .agg (hdrV (W.heads[i])).toArray) (by as_aux_lemma => kernel_rfl) hS (H.cells 1 rfl) (by intro hq; simp only [List.mem_cons, List.not_mem_nil, or_false] at hq; exact H.raws 1 0 rfl rfl (by decide) hq) (by simp) rfl (by as_aux_lemma => kernel_rfl) ?_
  refine qHP hS 1 [(7, .seq), (8, .qui), (9, .seq)] [(1, .func (.func 64) #[] #[]), (2, .func (.func 65) #[] #[]), (3, .P b1 0), (7, .slice ao (settlesTo W i).length co), (10, .P b27 0), (12, .slice a3W W.heads.length k3W), (13, .I ((W.heads.length : Nat) : Int)), (14, .I i), (29, .I (W.nodes[i])), (30, .agg (hdrV (W.heads[i])).toArray), (31, .P b27 2)] ?_
  have Hr := H
  refine RH.sto ?_
  refine RW.storeC (d := none) (r := []) (T := 3) (b := b27) (k := 2) (v := .I (W.nodes[i])) (c' := (((msgZ).set 0 (.I 11)).set 2 (.I (W.nodes[i]))).toArray) (M' := [(b27, .cells (((msgZ).set 0 (.I 11)).set 2 (.I (W.nodes[i]))).toArray 57 (0, 0)), (b20, .cells (hdrV (W.heads[i])).toArray 53 (0, 0)), (b1, .cells (wrV W a3W k3W a4W k4W a5W k5W a6W k6W).toArray 32 (0, 0))]) (by as_aux_lemma => kernel_rfl) H 0 rfl (by as_aux_lemma => kernel_rfl) (by as_aux_lemma => kernel_rfl) ?_
  intro w39 hch38 H
  have hS40 := hS.sto hch38 (.inr (by simp))
  refine ⟨hS40, ?_⟩
  have hS := hS40
  refine qHP hS 1 [(9, .seq)] [(1, .func (.func 64) #[] #[]), (2, .func (.func 65) #[] #[]), (3, .P b1 0), (7, .slice ao (settlesTo W i).length co), (10, .P b27 0), (12, .slice a3W W.heads.length k3W), (13, .I ((W.heads.length : Nat) : Int)), (14, .I i), (30, .agg (hdrV (W.heads[i])).toArray), (32, .P b27 13)] ?_
  refine RH.sto ?_
  refine RW.storeC (d := none) (r := []) (T := 53) (b := b27) (k := 13) (v := .agg (hdrV (W.heads[i])).toArray) (c' := #[.I 11, .I 0, .I (W.nodes[i]), .int .u64 0, .int .u64 0, .int .u64 0, .int .u64 0, .int .u64 0, .bool false, .bool false, .slice none 0 0, .slice none 0 0, .slice none 0 0, .int .u64 (((W.heads[i]).id).version), .I (((W.heads[i]).id).index), .int .u64 (((W.heads[i]).id).epoch), .I ((W.heads[i]).kk), .I ((W.heads[i]).nn), .I ((W.heads[i]).size), .int .u32 ((((W.heads[i]).sum).toNat : Nat) : Int), .slice none 0 0, .int .u64 0, .int .u64 0, .I 0, .string (⟨#[]⟩), .I 0, .slice none 0 0]) (M' := [(b27, .cells #[.I 11, .I 0, .I (W.nodes[i]), .int .u64 0, .int .u64 0, .int .u64 0, .int .u64 0, .int .u64 0, .bool false, .bool false, .slice none 0 0, .slice none 0 0, .slice none 0 0, .int .u64 (((W.heads[i]).id).version), .I (((W.heads[i]).id).index), .int .u64 (((W.heads[i]).id).epoch), .I ((W.heads[i]).kk), .I ((W.heads[i]).nn), .I ((W.heads[i]).size), .int .u32 ((((W.heads[i]).sum).toNat : Nat) : Int), .slice none 0 0, .int .u64 0, .int .u64 0, .I 0, .string (⟨#[]⟩), .I 0, .slice none 0 0] 57 (0, 0)), (b20, .cells (hdrV (W.heads[i])).toArray 53 (0, 0)), (b1, .cells (wrV W a3W k3W a4W k4W a5W k5W a6W k6W).toArray 32 (0, 0))]) (by as_aux_lemma => kernel_rfl) H 0 rfl (by as_aux_lemma => kernel_rfl) (by as_aux_lemma => kernel_rfl) ?_
  intro w42 hch41 H
  have hS43 := hS.sto hch41 (.inr (by simp))
  refine ⟨hS43, ?_⟩
  have hS := hS43
  refine RH.fin hS 0 [1, 2, 3, 7, 10, 12, 13, 14] [(1, .func (.func 64) #[] #[]), (2, .func (.func 65) #[] #[]), (3, .P b1 0), (7, .slice ao (settlesTo W i).length co), (10, .P b27 0), (12, .slice a3W W.heads.length k3W), (13, .I ((W.heads.length : Nat) : Int)), (14, .I i)] (by as_aux_lemma => kernel_rfl) ?_
  refine qG (sq 0 5) ?_
  refine qP 1 (sq 1 5) [(1, .func (.func 64) #[] #[]), (2, .func (.func 65) #[] #[]), (3, .P b1 0), (7, .slice ao (settlesTo W i).length co), (10, .P b27 0), (12, .slice a3W W.heads.length k3W), (13, .I ((W.heads.length : Nat) : Int)), (14, .I i), (33, .slice ao (settlesTo W i).length co)] ?_
  refine qL .seq 34 (sq 2 5) 57 b27 0 0 (.agg #[.I 11, .I 0, .I (W.nodes[i]), .int .u64 0, .int .u64 0, .int .u64 0, .int .u64 0, .int .u64 0, .bool false, .bool false, .slice none 0 0, .slice none 0 0, .slice none 0 0, .int .u64 (((W.heads[i]).id).version), .I (((W.heads[i]).id).index), .int .u64 (((W.heads[i]).id).epoch), .I ((W.heads[i]).kk), .I ((W.heads[i]).nn), .I ((W.heads[i]).size), .int .u32 ((((W.heads[i]).sum).toNat : Nat) : Int), .slice none 0 0, .int .u64 0, .int .u64 0, .I 0, .string (⟨#[]⟩), .I 0, .slice none 0 0]) (H.cells 0 rfl) ?_
  refine RW.new (κ := .seq) (d := some 35) (r := (sq 3 5)) (o := .cells #[.I 11, .I 0, .I (W.nodes[i]), .int .u64 0, .int .u64 0, .int .u64 0, .int .u64 0, .int .u64 0, .bool false, .bool false, .slice none 0 0, .slice none 0 0, .slice none 0 0, .int .u64 (((W.heads[i]).id).version), .I (((W.heads[i]).id).index), .int .u64 (((W.heads[i]).id).epoch), .I ((W.heads[i]).kk), .I ((W.heads[i]).nn), .I ((W.heads[i]).size), .int .u32 ((((W.heads[i]).sum).toNat : Nat) : Int), .slice none 0 0, .int .u64 0, .int .u64 0, .I 0, .string (⟨#[]⟩), .I 0, .slice none 0 0] 57 (0, 0)) (v := fun b => .slice (some ⟨b, 0, none⟩) 1 1) (fun b => by as_aux_lemma => kernel_rfl) (nofun) H ?_
  intro b44 w45 H
  have H := H.freeze 0 rfl msgS ([⟨11, 0, W.nodes[i], 0, 0, 0, 0, 0, false, false, [], ⟨[], []⟩, ⟨((W.heads[i]).id), (W.heads[i]).kk, (W.heads[i]).nn, (W.heads[i]).size, (W.heads[i]).sum⟩, [], 0, 0, 0, ⟨#[]⟩, 0, []⟩] : List Msg) 1 (by simp [maxLen]) (by first | exact Nat.le_refl _ | simp) (EsP.cons (c := [.I 11, .I 0, .I (W.nodes[i]), .int .u64 0, .int .u64 0, .int .u64 0, .int .u64 0, .int .u64 0, .bool false, .bool false, .slice none 0 0, .slice none 0 0, .slice none 0 0, .int .u64 (((W.heads[i]).id).version), .I (((W.heads[i]).id).index), .int .u64 (((W.heads[i]).id).epoch), .I ((W.heads[i]).kk), .I ((W.heads[i]).nn), .I ((W.heads[i]).size), .int .u32 ((((W.heads[i]).sum).toNat : Nat) : Int), .slice none 0 0, .int .u64 0, .int .u64 0, .I 0, .string (⟨#[]⟩), .I 0, .slice none 0 0]) (msg_mk (l0 := [.I 11]) (y0 := 11) (l1 := [.I 0]) (y1 := 0) (l2 := [.I (W.nodes[i])]) (y2 := W.nodes[i]) (l3 := [.int .u64 0]) (y3 := 0) (l4 := [.int .u64 0]) (y4 := 0) (l5 := [.int .u64 0]) (y5 := 0) (l6 := [.int .u64 0]) (y6 := 0) (l7 := [.int .u64 0]) (y7 := 0) (l8 := [.bool false]) (y8 := false) (l9 := [.bool false]) (y9 := false) (l10 := [.slice none 0 0]) (y10 := []) (l11 := [.slice none 0 0, .slice none 0 0]) (y11 := ⟨[], []⟩) (l12 := [.int .u64 (((W.heads[i]).id).version), .I (((W.heads[i]).id).index), .int .u64 (((W.heads[i]).id).epoch), .I ((W.heads[i]).kk), .I ((W.heads[i]).nn), .I ((W.heads[i]).size), .int .u32 ((((W.heads[i]).sum).toNat : Nat) : Int)]) (y12 := ⟨((W.heads[i]).id), (W.heads[i]).kk, (W.heads[i]).nn, (W.heads[i]).size, (W.heads[i]).sum⟩) (l13 := [.slice none 0 0]) (y13 := []) (l14 := [.int .u64 0]) (y14 := 0) (l15 := [.int .u64 0]) (y15 := 0) (l16 := [.I 0]) (y16 := 0) (l17 := [.string (⟨#[]⟩)]) (y17 := ⟨#[]⟩) (l18 := [.I 0]) (y18 := 0) (l19 := [.slice none 0 0]) (y19 := []) (Shape.int_mk (by decide)) (Shape.int_mk (by decide)) i64a (Shape.int_mk (by decide)) (Shape.int_mk (by decide)) (Shape.int_mk (by decide)) (Shape.int_mk (by decide)) (Shape.int_mk (by decide)) Shape.bool_mk Shape.bool_mk Shape.slice_nil (conf_mk Shape.slice_nil Shape.slice_nil) (hdr_mk (cid_mk u64a i64a u64a) i64a i64a i64a Shape.bv_mk) Shape.slice_nil (Shape.int_mk (by decide)) (Shape.int_mk (by decide)) (Shape.int_mk (by decide)) ⟨rfl, by first | assumption | (simp [maxLen]; done) | decide⟩ (Shape.int_mk (by decide)) Shape.slice_nil) EsP.nil)
  have H : Hp w S [] [(b27, .cells #[.I 11, .I 0, .I (W.nodes[i]), .int .u64 0, .int .u64 0, .int .u64 0, .int .u64 0, .int .u64 0, .bool false, .bool false, .slice none 0 0, .slice none 0 0, .slice none 0 0, .int .u64 (((W.heads[i]).id).version), .I (((W.heads[i]).id).index), .int .u64 (((W.heads[i]).id).epoch), .I ((W.heads[i]).kk), .I ((W.heads[i]).nn), .I ((W.heads[i]).size), .int .u32 ((((W.heads[i]).sum).toNat : Nat) : Int), .slice none 0 0, .int .u64 0, .int .u64 0, .I 0, .string (⟨#[]⟩), .I 0, .slice none 0 0] 57 (0, 0)), (b20, .cells (hdrV (W.heads[i])).toArray 53 (0, 0)), (b1, .cells (wrV W a3W k3W a4W k4W a5W k5W a6W k6W).toArray 32 (0, 0))] [⟨msgS, 57, .slice ao (settlesTo W i).length co, settlesTo W i⟩] [Rp (Shape.slice msgS) [.slice (some ⟨b44, 0, none⟩) 1 1] ([⟨11, 0, W.nodes[i], 0, 0, 0, 0, 0, false, false, [], ⟨[], []⟩, ⟨((W.heads[i]).id), (W.heads[i]).kk, (W.heads[i]).nn, (W.heads[i]).size, (W.heads[i]).sum⟩, [], 0, 0, 0, ⟨#[]⟩, 0, []⟩] : List Msg), Fc b33 o34 [.I (W.nodes[i])], Fc b7 o8 (hdrV (W.heads[i])), Rp (Shape.slice hdrS) [.slice a3W W.heads.length k3W] W.heads, Rp (Shape.slice SB) [.slice a4W W.chunks.length k4W] W.chunks, Rp (Shape.slice (Shape.int .i64)) [.slice a5W W.nodes.length k5W] W.nodes, Rp (Shape.slice (Shape.int .i64)) [.slice a6W W.acks.length k6W] W.acks] _ := H
  refine RW.appendW (d := some 36) (r := (sq 4 5)) (T := 33) (ty := 33) (e := 57) (m := 27) (by_ := 296) (v := .slice ao (settlesTo W i).length co) (a2 := (some ⟨b44, 0, none⟩)) (l2 := 1) (c2 := 1) (zs := settlesTo W (i + 1)) (by as_aux_lemma => kernel_rfl) (by as_aux_lemma => kernel_rfl) rfl H 0 rfl 0 rfl (by rw [← settlesTo_snoc]; unfold settleOf; rw [getD_at _ (by omega), getD_at _ (by omega)]) (by simp only [settlesTo, List.length_map, List.length_range]; omega) ?_
  intro a46 c47 w49 H hc48
  have H : Hp w S [] [(b27, .cells #[.I 11, .I 0, .I (W.nodes[i]), .int .u64 0, .int .u64 0, .int .u64 0, .int .u64 0, .int .u64 0, .bool false, .bool false, .slice none 0 0, .slice none 0 0, .slice none 0 0, .int .u64 (((W.heads[i]).id).version), .I (((W.heads[i]).id).index), .int .u64 (((W.heads[i]).id).epoch), .I ((W.heads[i]).kk), .I ((W.heads[i]).nn), .I ((W.heads[i]).size), .int .u32 ((((W.heads[i]).sum).toNat : Nat) : Int), .slice none 0 0, .int .u64 0, .int .u64 0, .I 0, .string (⟨#[]⟩), .I 0, .slice none 0 0] 57 (0, 0)), (b20, .cells (hdrV (W.heads[i])).toArray 53 (0, 0)), (b1, .cells (wrV W a3W k3W a4W k4W a5W k5W a6W k6W).toArray 32 (0, 0))] [⟨msgS, 57, .slice a46 ((settlesTo W (i + 1)).length) c47, settlesTo W (i + 1)⟩] [Rp (Shape.slice msgS) [.slice (some ⟨b44, 0, none⟩) 1 1] ([⟨11, 0, W.nodes[i], 0, 0, 0, 0, 0, false, false, [], ⟨[], []⟩, ⟨((W.heads[i]).id), (W.heads[i]).kk, (W.heads[i]).nn, (W.heads[i]).size, (W.heads[i]).sum⟩, [], 0, 0, 0, ⟨#[]⟩, 0, []⟩] : List Msg), Fc b33 o34 [.I (W.nodes[i])], Fc b7 o8 (hdrV (W.heads[i])), Rp (Shape.slice hdrS) [.slice a3W W.heads.length k3W] W.heads, Rp (Shape.slice SB) [.slice a4W W.chunks.length k4W] W.chunks, Rp (Shape.slice (Shape.int .i64)) [.slice a5W W.nodes.length k5W] W.nodes, Rp (Shape.slice (Shape.int .i64)) [.slice a6W W.acks.length k6W] W.acks] _ := H
  refine qF 1 [(1, .func (.func 64) #[] #[]), (2, .func (.func 65) #[] #[]), (3, .P b1 0), (7, .slice a46 ((settlesTo W (i + 1)).length) c47), (12, .slice a3W W.heads.length k3W), (13, .I ((W.heads.length : Nat) : Int)), (14, .I i)] ?_
  refine qR 1 [.c [2, 0, 1, 0, 0, 3], .l [2, 0, 1, 0, 0], .b 0, .c [3]] [(1, .func (.func 64) #[] #[]), (2, .func (.func 65) #[] #[]), (3, .P b1 0), (7, .slice a46 ((settlesTo W (i + 1)).length) c47), (12, .slice a3W W.heads.length k3W), (13, .I ((W.heads.length : Nat) : Int)), (14, .I i)] ?_
  refine qG (sq 0 2) ?_
  refine qI .seq 37 (sq 1 2) ((i : Int) + 1) ?_
  refine qF 1 [(1, .func (.func 64) #[] #[]), (2, .func (.func 65) #[] #[]), (3, .P b1 0), (7, .slice a46 ((settlesTo W (i + 1)).length) c47), (12, .slice a3W W.heads.length k3W), (13, .I ((W.heads.length : Nat) : Int)), (14, .I ((i : Int) + 1))] ?_
  have H := H.pick [3, 4, 5, 6] (G' := [Rp (Shape.slice hdrS) [.slice a3W W.heads.length k3W] W.heads, Rp (Shape.slice SB) [.slice a4W W.chunks.length k4W] W.chunks, Rp (Shape.slice (Shape.int .i64)) [.slice a5W W.nodes.length k5W] W.nodes, Rp (Shape.slice (Shape.int .i64)) [.slice a6W W.acks.length k6W] W.acks]) rfl
  have H := H.frontM 2 (M' := [(b1, .cells (wrV W a3W k3W a4W k4W a5W k5W a6W k6W).toArray 32 (0, 0)), (b27, .cells #[.I 11, .I 0, .I (W.nodes[i]), .int .u64 0, .int .u64 0, .int .u64 0, .int .u64 0, .int .u64 0, .bool false, .bool false, .slice none 0 0, .slice none 0 0, .slice none 0 0, .int .u64 (((W.heads[i]).id).version), .I (((W.heads[i]).id).index), .int .u64 (((W.heads[i]).id).epoch), .I ((W.heads[i]).kk), .I ((W.heads[i]).nn), .I ((W.heads[i]).size), .int .u32 ((((W.heads[i]).sum).toNat : Nat) : Int), .slice none 0 0, .int .u64 0, .int .u64 0, .I 0, .string (⟨#[]⟩), .I 0, .slice none 0 0] 57 (0, 0)), (b20, .cells (hdrV (W.heads[i])).toArray 53 (0, 0))]) rfl
  have H := H.drop (M' := [(b1, .cells (wrV W a3W k3W a4W k4W a5W k5W a6W k6W).toArray 32 (0, 0))]) (W' := [⟨msgS, 57, .slice a46 ((settlesTo W (i + 1)).length) c47, settlesTo W (i + 1)⟩]) (by repeat (first | exact List.Sublist.refl _ | apply List.Sublist.cons_cons | apply List.Sublist.cons)) (by repeat (first | exact List.Sublist.refl _ | apply List.Sublist.cons_cons | apply List.Sublist.cons))
  exact WK.back (hback3 (i + 1, a46, c47) _ ⟨H, by omega⟩ (by first | omega | (simp only []; omega))) (by as_aux_lemma => kernel_rfl)
 ·
  refine qR 3 [.c [4]] [(6, .slice ao (settlesTo W i).length co)] ?_
  refine qT (.slice ao (settlesTo W i).length co) Try.func63 ?_
  have H : Hp w S [] [(b1, .cells (wrV W a3W k3W a4W k4W a5W k5W a6W k6W).toArray 32 (0, 0))] [] [Rp (Shape.slice msgS) [.slice ao (settlesTo W i).length co] (settlesTo W i), Rp (Shape.slice hdrS) [.slice a3W W.heads.length k3W] W.heads, Rp (Shape.slice SB) [.slice a4W W.chunks.length k4W] W.chunks, Rp (Shape.slice (Shape.int .i64)) [.slice a5W W.nodes.length k5W] W.nodes, Rp (Shape.slice (Shape.int .i64)) [.slice a6W W.acks.length k6W] W.acks] _ := H.freezeW 0 rfl
  have hi9 : i = W.heads.length := by omega
  subst hi9
  exact ⟨_, rfl, H.done, _, _, rfl, H.out (H.rp 0 rfl)⟩

theorem settle_spec {S : Nat → Prop} {w : World} {W : Wr} {cs : List Value} (hW : wrS.rep S w cs W) (hn : W.heads.length ≤ 1000000) :
 Calls Try.prog 27 #[.agg cs.toArray] w (Ret fun v w' => Ext w w' ∧ ∃ (a : Option Addr) (c : Nat) (L : List Msg), v = .slice a L.length c ∧ (Shape.slice msgS).rep (Nw S w) w' [.slice a L.length c] L ∧ L = settleF W) := by
 obtain ⟨a3W, k3W, a4W, k4W, a5W, k5W, a6W, k6W, rfl, h0W, h1W, h2W, h3W, h4W, h5W, h6W, h7W, h8W, h9W⟩ := wr_open hW
 refine qS (fn := Try.f27) (n := 13) (σ := [(0, .agg (wrV W a3W k3W a4W k4W a5W k5W a6W k6W).toArray)]) Try.func27 ?_
 have H := Hp.startF (w := w) (S := S) (G := [Rp (Shape.slice hdrS) [.slice a3W W.heads.length k3W] W.heads, Rp (Shape.slice SB) [.slice a4W W.chunks.length k4W] W.chunks, Rp (Shape.slice (Shape.int .i64)) [.slice a5W W.nodes.length k5W] W.nodes, Rp (Shape.slice (Shape.int .i64)) [.slice a6W W.acks.length k6W] W.acks]) (.rp h3W (.rp h4W (.rp h5W (.rp h6W .nil))))
 refine qR 1 [.c [0], .c [1]] [(0, .agg (wrV W a3W k3W a4W k4W a5W k5W a6W k6W).toArray)] ?_
 refine qG (sq 0 2) ?_
 refine qB .seq 1 (sq 1 2) ((wrV W a3W k3W a4W k4W a5W k5W a6W k6W).toArray) 32 H ?_
 intro b1 w2 H
 refine qF 1 [(1, .P b1 0)] ?_
 refine qR 2 [.c [1, 0, 0], .c [1, 0, 1], .c [2]] [(1, .P b1 0)] ?_
 refine qG (sq 0 8) ?_
 refine qL .seq 3 (sq 1 8) 32 b1 0 0 (.agg (wrV W a3W k3W a4W k4W a5W k5W a6W k6W).toArray) (H.cells 0 rfl) ?_
 refine qK .seq (some 4) (sq 2 8) 60 #[.agg (wrV W a3W k3W a4W k4W a5W k5W a6W k6W).toArray] (right_spec (W := W) (wr_mkV u64a u64a ⟨rfl, h2W⟩ (H.rp 0 rfl) (H.rp 1 rfl) (H.rp 2 rfl) (H.rp 3 rfl) i64a i64a i64a)) ?_
 rintro _ w3 hE4 rfl
 have H := H.ext hE4
 refine qP 2 (sq 4 8) [(1, .P b1 0), (6, .bool (!(rightW W)))] ?_
 refine RW.test (fun b_ => [(1, .P b1 0), (6, .bool b_)]) (!(rightW W)) (fun h5 => ?_) (fun h5 => ?_)
 ·
  replace h5 : (rightW W) = false := by revert h5; cases (rightW W) <;> simp
  refine qF 4 [(1, .P b1 0), (10, .bool true)] ?_
  refine qR 3 [.c [1, 0, 1, 0, 1], .c [2]] [(2, .slice none 0 0)] ?_
  refine qT (.slice none 0 0) Try.func27 ?_
  exact ⟨_, rfl, H.done, none, 0, [], rfl, Shape.slice_nil, by unfold settleF; rw [if_neg (by simp_all)]⟩
 ·
  replace h5 : (rightW W) = true := by revert h5; cases (rightW W) <;> simp
  have hrw9 : rightW W = true := by first | assumption | (simpa using h5)
  refine qP 1 (sq 5 8) [(1, .P b1 0), (6, .bool false), (7, .P b1 9)] ?_
  refine qL .seq 8 (sq 6 8) 30 b1 9 9 (.I W.done) (H.cells 0 rfl) ?_
  refine qF 2 [(1, .P b1 0), (10, .bool (W.done != 1))] ?_
  refine qN W.done 1 (fun h6 => ?_) (fun h6 => ?_)
  ·
   refine qR 2 [.c [1, 0, 1, 0, 1], .c [2]] [(2, .slice none 0 0)] ?_
   refine qT (.slice none 0 0) Try.func27 ?_
   exact ⟨_, rfl, H.done, none, 0, [], rfl, Shape.slice_nil, by unfold settleF; rw [if_neg (by simp_all)]⟩
  ·
   have hrr9 := of_decide_eq_true (p := W.heads.length = W.chunks.length ∧ W.heads.length = W.nodes.length) hrw9
   refine qR 2 [.c [2, 0], .c [3]] [(1, .P b1 0)] ?_
   refine qG (sq 0 3) ?_
   refine qL .seq 11 (sq 1 3) 32 b1 0 0 (.agg (wrV W a3W k3W a4W k4W a5W k5W a6W k6W).toArray) (H.cells 0 rfl) ?_
   refine qK .seq (some 12) (sq 2 3) 63 #[.agg (wrV W a3W k3W a4W k4W a5W k5W a6W k6W).toArray, .func (.func 64) #[] #[], .func (.func 65) #[] #[]] (messages_settle (S := Av S w [] (idsOf [(b1, .cells (wrV W a3W k3W a4W k4W a5W k5W a6W k6W).toArray 32 (0, 0))] [])) (W := W) (wr_mkV u64a u64a ⟨rfl, h2W⟩ (H.rp 0 rfl) (H.rp 1 rfl) (H.rp 2 rfl) (H.rp 3 rfl) i64a i64a i64a) (by first | assumption | omega) (by omega)) ?_
   rintro _ w7 hE10 ⟨a8, c9, rfl, hr11⟩
   have H := H.addN hE10 (F := Rp (Shape.slice msgS) [.slice a8 (settlesTo W W.heads.length).length c9] (settlesTo W W.heads.length)) hr11
   refine qF 1 [(2, .slice a8 (settlesTo W W.heads.length).length c9)] ?_
   refine qT (.slice a8 (settlesTo W W.heads.length).length c9) Try.func27 ?_
   exact ⟨_, rfl, H.done, _, _, _, rfl, H.out (H.rp 0 rfl), by unfold settleF; rw [if_pos (by simp_all)]⟩

def beginW (client seq : Int) (key : ByteArray) (xs : List (BitVec 8)) (k n : Nat) (R : Res) (limit : Int) : Wr :=
 ⟨client, seq, key, headsOf ⟨R.version, 0, R.epoch⟩ xs.length k (enc xs k n), enc xs k n, R.nodes, [], 0, limit, 0⟩

set_option maxHeartbeats 2000000 in
theorem begin_ok {S : Nat → Prop} {w : World} {xs : List (BitVec 8)} {a : Option Addr} {c : Nat} (client seq : Int) (key : ByteArray) (h : SB.rep S w [.slice a xs.length c] xs) {R : Res} {rs : List Value} (hR : resS.rep S w rs R) (limit : Int) (hkey : key.size ≤ maxLen) (hc1 : 0 ≤ client ∧ client ≤ 18446744073709551615) (hc2 : 0 ≤ seq ∧ seq ≤ 18446744073709551615) (k n : Nat) (hs : xs.length ≤ 65536) (hk : 1 ≤ k) (hkn : k ≤ n) (hn : n ≤ 255) (hnn : R.nodes.length = n) (hlim : 1 ≤ limit ∧ limit ≤ 100000) :
 Calls Try.prog 18 #[.int .u64 client, .int .u64 seq, .string key, .slice a xs.length c, .I k, .I n, .agg rs.toArray, .I limit] w (Ret fun v w' => Ext w w' ∧ ∃ (ds : List Value) (a : Option Addr) (c : Nat), v = .tuple #[.agg ds.toArray, .slice a (msgsOf (beginW client seq key xs k n R limit)).length c, .I 0] ∧ wrS.rep (Nw S w) w' ds (beginW client seq key xs k n R limit) ∧ (Shape.slice msgS).rep (Nw S w) w' [.slice a (msgsOf (beginW client seq key xs k n R limit)).length c] (msgsOf (beginW client seq key xs k n R limit))) := by
 obtain ⟨a2R, k2R, rfl, h0R, h1R, h2R, h3R⟩ := res_open hR
 have henc := enc_len (xs := xs) hkn
 have hhl : (headsOf ⟨R.version, 0, R.epoch⟩ xs.length k (enc xs k n)).length = (enc xs k n).length := headsOf_len
 have hcb9 : ∀ c ∈ enc xs k n, c.length ≤ 1000000 := fun c hc => by have h1 := enc_all c hc; have h2 := lenOf_le (size := xs.length) (k := k) (by omega); omega
 have hRn : 0 ≤ (0 : Int) := by decide
 refine qS (fn := Try.f18) (n := 75) (σ := [(0, .int .u64 client), (1, .int .u64 seq), (2, .string key), (3, .slice a xs.length c), (4, .I k), (5, .I n), (6, .agg (resV R a2R k2R).toArray), (7, .I limit)]) Try.func18 ?_
 have H := Hp.startF (w := w) (S := S) (G := [Rp SB [.slice a xs.length c] xs, Rp (Shape.slice (Shape.int .i64)) [.slice a2R R.nodes.length k2R] R.nodes]) (.rp h (.rp h2R .nil))
 refine qR 1 [.c [0], .c [1]] [(0, .int .u64 client), (1, .int .u64 seq), (2, .string key), (3, .slice a xs.length c), (4, .I k), (5, .I n), (6, .agg (resV R a2R k2R).toArray), (7, .I limit)] ?_
 refine qG (sq 0 4) ?_
 refine qB .seq 14 (sq 1 4) ((resV R a2R k2R).toArray) 27 H ?_
 intro b1 w2 H
 refine qB .seq 16 (sq 2 4) ((wrZ).toArray) 32 H ?_
 intro b3 w4 H
 refine qF 2 [(0, .int .u64 client), (1, .int .u64 seq), (2, .string key), (3, .slice a xs.length c), (4, .I k), (5, .I n), (7, .I limit), (14, .P b1 0), (16, .P b3 0)] ?_
 refine qR 1 [.c [1, 0], .c [2]] [(0, .int .u64 client), (1, .int .u64 seq), (2, .string key), (3, .slice a xs.length c), (4, .I k), (5, .I n), (7, .I limit), (14, .P b1 0), (16, .P b3 0)] ?_
 refine qG (sq 0 9) ?_
 refine qP 3 (sq 3 9) [(0, .int .u64 client), (1, .int .u64 seq), (2, .string key), (3, .slice a xs.length c), (4, .I k), (5, .I n), (7, .I limit), (14, .P b1 0), (16, .P b3 0), (25, .slice a xs.length c), (26, .I k), (27, .I n)] ?_
 refine qK .seq (some 28) (sq 4 9) 29 #[.slice a xs.length c, .I k, .I n] (encode_ok (xs := xs) k n (H.rp 0 rfl) (by omega) (by omega) (by omega) (by omega)) ?_
 rintro _ w5 hE8 ⟨a6, c7, rfl, hr9⟩
 have H := H.addN hE8 (F := Rp (Shape.slice SB) [.slice a6 (enc xs k n).length c7] (enc xs k n)) hr9
 refine qF 5 [(0, .int .u64 client), (1, .int .u64 seq), (2, .string key), (3, .slice a xs.length c), (4, .I k), (5, .I n), (7, .I limit), (14, .P b1 0), (16, .P b3 0), (19, .slice a6 (enc xs k n).length c7), (20, .I 0)] ?_
 refine qR 2 [.c [2, 0, 0], .c [2, 0, 1], .c [3]] [(0, .int .u64 client), (1, .int .u64 seq), (2, .string key), (3, .slice a xs.length c), (4, .I k), (5, .I n), (7, .I limit), (14, .P b1 0), (16, .P b3 0), (19, .slice a6 (enc xs k n).length c7), (20, .I 0)] ?_
 refine qG (sq 0 17) ?_
 refine qP 4 (sq 4 17) [(0, .int .u64 client), (1, .int .u64 seq), (2, .string key), (3, .slice a xs.length c), (4, .I k), (5, .I n), (7, .I limit), (14, .P b1 0), (16, .P b3 0), (19, .slice a6 (enc xs k n).length c7), (33, .bool false), (34, .P b1 2)] ?_
 refine qL .seq 35 (sq 5 17) 25 b1 2 2 (.slice a2R R.nodes.length k2R) (H.cells 1 rfl) ?_
 refine qP 5 (sq 10 17) [(0, .int .u64 client), (1, .int .u64 seq), (2, .string key), (3, .slice a xs.length c), (4, .I k), (7, .I limit), (14, .P b1 0), (16, .P b3 0), (19, .slice a6 (enc xs k n).length c7), (40, .bool (((R.nodes.length : Nat) : Int) != (n : Int)))] ?_
 refine tN (fun b_ => [(0, .int .u64 client), (1, .int .u64 seq), (2, .string key), (3, .slice a xs.length c), (4, .I k), (7, .I limit), (14, .P b1 0), (16, .P b3 0), (19, .slice a6 (enc xs k n).length c7), (40, .bool b_)]) ((R.nodes.length : Nat) : Int) (n : Int) (fun h10 => ?_) (fun h10 => ?_)
 ·
  exact absurd h10 (by omega)
 ·
  refine qP 4 (sq 14 17) [(0, .int .u64 client), (1, .int .u64 seq), (2, .string key), (3, .slice a xs.length c), (4, .I k), (7, .I limit), (14, .P b1 0), (16, .P b3 0), (19, .slice a6 (enc xs k n).length c7), (44, .bool (decide ((limit : Int) < 1)))] ?_
  refine tD (fun b_ => [(0, .int .u64 client), (1, .int .u64 seq), (2, .string key), (3, .slice a xs.length c), (4, .I k), (7, .I limit), (14, .P b1 0), (16, .P b3 0), (19, .slice a6 (enc xs k n).length c7), (44, .bool b_)]) ((limit : Int) < 1) (fun h11 => ?_) (fun h11 => ?_)
  ·
   exact absurd h11 (by omega)
  ·
   refine qF 3 [(0, .int .u64 client), (1, .int .u64 seq), (2, .string key), (3, .slice a xs.length c), (4, .I k), (7, .I limit), (14, .P b1 0), (16, .P b3 0), (19, .slice a6 (enc xs k n).length c7), (47, .bool (decide ((limit : Int) > 100000)))] ?_
   refine qD ((limit : Int) > 100000) (fun h12 => ?_) (fun h12 => ?_)
   ·
    exact absurd h12 (by omega)
   ·
    refine qR 2 [.c [3, 0], .c [4]] [(0, .int .u64 client), (1, .int .u64 seq), (2, .string key), (3, .slice a xs.length c), (4, .I k), (7, .I limit), (14, .P b1 0), (16, .P b3 0), (19, .slice a6 (enc xs k n).length c7)] ?_
    refine qG (sq 0 15) ?_
    refine qP 2 (sq 2 15) [(0, .int .u64 client), (1, .int .u64 seq), (2, .string key), (3, .slice a xs.length c), (4, .I k), (7, .I limit), (14, .P b1 0), (16, .P b3 0), (19, .slice a6 (enc xs k n).length c7), (50, .slice a6 (enc xs k n).length c7), (51, .P b1 1)] ?_
    refine qL .seq 52 (sq 3 15) 22 b1 1 1 (.int .u64 R.version) (H.cells 1 rfl) ?_
    refine qP 1 (sq 4 15) [(0, .int .u64 client), (1, .int .u64 seq), (2, .string key), (3, .slice a xs.length c), (4, .I k), (7, .I limit), (14, .P b1 0), (16, .P b3 0), (19, .slice a6 (enc xs k n).length c7), (50, .slice a6 (enc xs k n).length c7), (52, .int .u64 R.version), (53, .P b1 3)] ?_
    refine qL .seq 54 (sq 5 15) 22 b1 3 3 (.int .u64 R.epoch) (H.cells 1 rfl) ?_
    refine qP 4 (sq 9 15) [(0, .int .u64 client), (1, .int .u64 seq), (2, .string key), (7, .I limit), (14, .P b1 0), (16, .P b3 0), (19, .slice a6 (enc xs k n).length c7), (50, .slice a6 (enc xs k n).length c7), (55, .agg #[.int .u64 R.version, .I 0, .int .u64 R.epoch]), (57, .I ((xs.length : Nat) : Int)), (58, .I k)] ?_
    refine qK .seq (some 59) (sq 10 15) 38 #[.slice a6 (enc xs k n).length c7, .agg #[.int .u64 R.version, .I 0, .int .u64 R.epoch], .I ((xs.length : Nat) : Int), .I k] (heads_ok (S := Av S w [] (idsOf [(b3, .cells (wrZ).toArray 32 (0, 0)), (b1, .cells (resV R a2R k2R).toArray 27 (0, 0))] [])) (cs := enc xs k n) (id := ⟨R.version, 0, R.epoch⟩) xs.length k (H.rp 0 rfl) (cid_mk u64a (Shape.int_mk (by decide)) u64a) (by omega) (by omega) (by omega) (by omega) (enc_all)) ?_
    rintro _ w13 hE16 ⟨a14, c15, rfl, hr17⟩
    have H := H.addN hE16 (F := Rp (Shape.slice hdrS) [.slice a14 ((headsOf (⟨R.version, 0, R.epoch⟩) xs.length k (enc xs k n)).length) c15] (headsOf (⟨R.version, 0, R.epoch⟩) xs.length k (enc xs k n))) hr17
    refine qF 5 [(0, .int .u64 client), (1, .int .u64 seq), (2, .string key), (7, .I limit), (14, .P b1 0), (16, .P b3 0), (19, .slice a6 (enc xs k n).length c7), (21, .slice a14 ((headsOf (⟨R.version, 0, R.epoch⟩) xs.length k (enc xs k n)).length) c15)] ?_
    refine qR 1 [.c [4, 0], .c [5]] [(0, .int .u64 client), (1, .int .u64 seq), (2, .string key), (7, .I limit), (14, .P b1 0), (16, .P b3 0), (19, .slice a6 (enc xs k n).length c7), (21, .slice a14 ((headsOf (⟨R.version, 0, R.epoch⟩) xs.length k (enc xs k n)).length) c15)] ?_
    refine qG (sq 0 12) ?_
    refine qP 6 (sq 6 12) [(7, .I limit), (16, .P b3 0), (62, .int .u64 client), (63, .int .u64 seq), (64, .string key), (65, .slice a14 ((headsOf (⟨R.version, 0, R.epoch⟩) xs.length k (enc xs k n)).length) c15), (66, .slice a6 (enc xs k n).length c7), (67, .P b1 2)] ?_
    refine qL .seq 68 (sq 7 12) 25 b1 2 2 (.slice a2R R.nodes.length k2R) (H.cells 1 rfl) ?_
    refine qK .seq (some 69) (sq 8 12) 56 #[.slice a2R R.nodes.length k2R] (clone_spec (H.rp 3 rfl) (by omega)) ?_
    rintro v19 w18 - H'
    have H := H.back (M1 := []) (W1 := []) H'
    obtain ⟨a20, c21, rfl, hc22, hm23⟩ := H.ownForm 0 rfl
    have H : Hp w S [] [(b3, .cells (wrZ).toArray 32 (0, 0)), (b1, .cells (resV R a2R k2R).toArray 27 (0, 0))] [⟨Shape.int .i64, 3, .slice a20 R.nodes.length c21, R.nodes⟩] [Rp (Shape.slice hdrS) [.slice a14 ((headsOf (⟨R.version, 0, R.epoch⟩) xs.length k (enc xs k n)).length) c15] (headsOf (⟨R.version, 0, R.epoch⟩) xs.length k (enc xs k n)), Rp (Shape.slice SB) [.slice a6 (enc xs k n).length c7] (enc xs k n), Rp SB [.slice a xs.length c] xs, Rp (Shape.slice (Shape.int .i64)) [.slice a2R R.nodes.length k2R] R.nodes] _ := H
    refine qP 2 (sq 10 12) [(16, .P b3 0), (71, .agg #[.int .u64 client, .int .u64 seq, .string key, .slice a14 ((headsOf (⟨R.version, 0, R.epoch⟩) xs.length k (enc xs k n)).length) c15, .slice a6 (enc xs k n).length c7, .slice a20 R.nodes.length c21, .slice none 0 0, .I 0, .I limit, .I 0])] ?_
    refine qB .seq 23 (sq 11 12) ((wrZ).toArray) 32 H ?_
    intro b24 w25 H
    refine RW.store (d := none) (r := (sq 12 12)) (T := 32) (b := b24) (k := 0) (v := .agg #[.int .u64 client, .int .u64 seq, .string key, .slice a14 ((headsOf (⟨R.version, 0, R.epoch⟩) xs.length k (enc xs k n)).length) c15, .slice a6 (enc xs k n).length c7, .slice a20 R.nodes.length c21, .slice none 0 0, .I 0, .I limit, .I 0]) (c' := #[.int .u64 client, .int .u64 seq, .string key, .slice a14 ((headsOf (⟨R.version, 0, R.epoch⟩) xs.length k (enc xs k n)).length) c15, .slice a6 (enc xs k n).length c7, .slice a20 R.nodes.length c21, .slice none 0 0, .I 0, .I limit, .I 0]) (M' := [(b24, .cells #[.int .u64 client, .int .u64 seq, .string key, .slice a14 ((headsOf (⟨R.version, 0, R.epoch⟩) xs.length k (enc xs k n)).length) c15, .slice a6 (enc xs k n).length c7, .slice a20 R.nodes.length c21, .slice none 0 0, .I 0, .I limit, .I 0] 32 (0, 0)), (b3, .cells (wrZ).toArray 32 (0, 0)), (b1, .cells (resV R a2R k2R).toArray 27 (0, 0))]) (by as_aux_lemma => kernel_rfl) H 0 rfl (by as_aux_lemma => kernel_rfl) (by as_aux_lemma => kernel_rfl) ?_
    intro w26 H
    refine qF 0 [(16, .P b3 0), (23, .P b24 0)] ?_
    refine qR 1 [.c [5, 0], .c [6]] [(16, .P b3 0), (23, .P b24 0)] ?_
    refine WK.draw1 3 [(0, .qui), (1, .qui), (2, .chn)] [(0, .qui), (1, .qui), (2, .chn), (3, .seq), (4, .seq), (5, .seq)] Try_mixed (by as_aux_lemma => kernel_rfl) (by as_aux_lemma => kernel_rfl) (by as_aux_lemma => kernel_rfl) ?_
    have H := H.draw
    generalize ({ w26 with drawn := w26.drawn + 1 } : World) = w27 at H ⊢
    refine qL .qui 72 [(1, .qui), (2, .chn), (3, .seq), (4, .seq), (5, .seq)] 32 b24 0 0 (.agg #[.int .u64 client, .int .u64 seq, .string key, .slice a14 ((headsOf (⟨R.version, 0, R.epoch⟩) xs.length k (enc xs k n)).length) c15, .slice a6 (enc xs k n).length c7, .slice a20 R.nodes.length c21, .slice none 0 0, .I 0, .I limit, .I 0]) (H.cells 0 rfl) ?_
    refine qL .qui 73 [(2, .chn), (3, .seq), (4, .seq), (5, .seq)] 32 b24 0 0 (.agg #[.int .u64 client, .int .u64 seq, .string key, .slice a14 ((headsOf (⟨R.version, 0, R.epoch⟩) xs.length k (enc xs k n)).length) c15, .slice a6 (enc xs k n).length c7, .slice a20 R.nodes.length c21, .slice none 0 0, .I 0, .I limit, .I 0]) (H.cells 0 rfl) ?_
    have H : Hp w S [] [(b24, .cells #[.int .u64 client, .int .u64 seq, .string key, .slice a14 ((headsOf (⟨R.version, 0, R.epoch⟩) xs.length k (enc xs k n)).length) c15, .slice a6 (enc xs k n).length c7, .slice a20 R.nodes.length c21, .slice none 0 0, .I 0, .I limit, .I 0] 32 (0, 0)), (b3, .cells (wrZ).toArray 32 (0, 0)), (b1, .cells (resV R a2R k2R).toArray 27 (0, 0))] [] [Rp (Shape.slice (Shape.int .i64)) [.slice a20 R.nodes.length c21] R.nodes, Rp (Shape.slice hdrS) [.slice a14 ((headsOf (⟨R.version, 0, R.epoch⟩) xs.length k (enc xs k n)).length) c15] (headsOf (⟨R.version, 0, R.epoch⟩) xs.length k (enc xs k n)), Rp (Shape.slice SB) [.slice a6 (enc xs k n).length c7] (enc xs k n), Rp SB [.slice a xs.length c] xs, Rp (Shape.slice (Shape.int .i64)) [.slice a2R R.nodes.length k2R] R.nodes] _ := H.freezeW 0 rfl
    refine qK .chn (some 74) [(3, .seq), (4, .seq), (5, .seq)] 57 #[.agg #[.int .u64 client, .int .u64 seq, .string key, .slice a14 ((headsOf (⟨R.version, 0, R.epoch⟩) xs.length k (enc xs k n)).length) c15, .slice a6 (enc xs k n).length c7, .slice a20 R.nodes.length c21, .slice none 0 0, .I 0, .I limit, .I 0]] (prepares_spec (S := Av S w [] (idsOf [(b24, .cells #[.int .u64 client, .int .u64 seq, .string key, .slice a14 ((headsOf (⟨R.version, 0, R.epoch⟩) xs.length k (enc xs k n)).length) c15, .slice a6 (enc xs k n).length c7, .slice a20 R.nodes.length c21, .slice none 0 0, .I 0, .I limit, .I 0] 32 (0, 0)), (b3, .cells (wrZ).toArray 32 (0, 0)), (b1, .cells (resV R a2R k2R).toArray 27 (0, 0))] [])) (W := ⟨client, seq, key, headsOf (⟨R.version, 0, R.epoch⟩) xs.length k (enc xs k n), enc xs k n, R.nodes, [], 0, limit, 0⟩) (wr_mk (l0 := [.int .u64 client]) (y0 := client) (l1 := [.int .u64 seq]) (y1 := seq) (l2 := [.string key]) (y2 := key) (l3 := [.slice a14 ((headsOf (⟨R.version, 0, R.epoch⟩) xs.length k (enc xs k n)).length) c15]) (y3 := headsOf (⟨R.version, 0, R.epoch⟩) xs.length k (enc xs k n)) (l4 := [.slice a6 (enc xs k n).length c7]) (y4 := enc xs k n) (l5 := [.slice a20 R.nodes.length c21]) (y5 := R.nodes) (l6 := [.slice none 0 0]) (y6 := []) (l7 := [.I 0]) (y7 := 0) (l8 := [.I limit]) (y8 := limit) (l9 := [.I 0]) (y9 := 0) u64a u64a ⟨rfl, hkey⟩ (H.rp 1 rfl) (H.rp 2 rfl) (H.rp 0 rfl) Shape.slice_nil (Shape.int_mk (by decide)) i64a (Shape.int_mk (by decide))) (by first | assumption | omega | (dsimp only; omega)) (by first | assumption | omega | (dsimp only; omega)) (by first | assumption | exact hcb9)) ?_
    rintro _ w28 hE31 ⟨a29, c30, rfl, hr32⟩
    have H := H.addN hE31 (F := Rp (Shape.slice msgS) [.slice a29 ((msgsOf (⟨client, seq, key, headsOf (⟨R.version, 0, R.epoch⟩) xs.length k (enc xs k n), enc xs k n, R.nodes, [], 0, limit, 0⟩)).length) c30] (msgsOf (⟨client, seq, key, headsOf (⟨R.version, 0, R.epoch⟩) xs.length k (enc xs k n), enc xs k n, R.nodes, [], 0, limit, 0⟩))) hr32
    refine RW.store (d := none) (r := [(4, .seq), (5, .seq)]) (T := 32) (b := b3) (k := 0) (v := .agg #[.int .u64 client, .int .u64 seq, .string key, .slice a14 ((headsOf (⟨R.version, 0, R.epoch⟩) xs.length k (enc xs k n)).length) c15, .slice a6 (enc xs k n).length c7, .slice a20 R.nodes.length c21, .slice none 0 0, .I 0, .I limit, .I 0]) (c' := #[.int .u64 client, .int .u64 seq, .string key, .slice a14 ((headsOf (⟨R.version, 0, R.epoch⟩) xs.length k (enc xs k n)).length) c15, .slice a6 (enc xs k n).length c7, .slice a20 R.nodes.length c21, .slice none 0 0, .I 0, .I limit, .I 0]) (M' := [(b24, .cells #[.int .u64 client, .int .u64 seq, .string key, .slice a14 ((headsOf (⟨R.version, 0, R.epoch⟩) xs.length k (enc xs k n)).length) c15, .slice a6 (enc xs k n).length c7, .slice a20 R.nodes.length c21, .slice none 0 0, .I 0, .I limit, .I 0] 32 (0, 0)), (b3, .cells #[.int .u64 client, .int .u64 seq, .string key, .slice a14 ((headsOf (⟨R.version, 0, R.epoch⟩) xs.length k (enc xs k n)).length) c15, .slice a6 (enc xs k n).length c7, .slice a20 R.nodes.length c21, .slice none 0 0, .I 0, .I limit, .I 0] 32 (0, 0)), (b1, .cells (resV R a2R k2R).toArray 27 (0, 0))]) (by as_aux_lemma => kernel_rfl) H 1 rfl (by as_aux_lemma => kernel_rfl) (by as_aux_lemma => kernel_rfl) ?_
    intro w33 H
    refine qF 2 [(16, .P b3 0), (17, .slice a29 ((msgsOf (⟨client, seq, key, headsOf (⟨R.version, 0, R.epoch⟩) xs.length k (enc xs k n), enc xs k n, R.nodes, [], 0, limit, 0⟩)).length) c30), (18, .I 0)] ?_
    refine WK.retBy (v := .tuple #[.agg #[.int .u64 client, .int .u64 seq, .string key, .slice a14 ((headsOf (⟨R.version, 0, R.epoch⟩) xs.length k (enc xs k n)).length) c15, .slice a6 (enc xs k n).length c7, .slice a20 R.nodes.length c21, .slice none 0 0, .I 0, .I limit, .I 0], .slice a29 ((msgsOf (⟨client, seq, key, headsOf (⟨R.version, 0, R.epoch⟩) xs.length k (enc xs k n), enc xs k n, R.nodes, [], 0, limit, 0⟩)).length) c30, .I 0]) Try.func18 (by as_aux_lemma => kernel_rfl) (RV.res3 (x := .cell 16 32) (y := .tmp 17) (z := .tmp 18) (by as_aux_lemma => kernel_rfl) (RV.cell (k := 0) (by as_aux_lemma => kernel_rfl) (H.cells 1 rfl) rfl (by as_aux_lemma => kernel_rfl)) (RV.tmp (by as_aux_lemma => kernel_rfl)) (RV.tmp (by as_aux_lemma => kernel_rfl))) ?_
    exact ⟨_, rfl, H.done, [.int .u64 client, .int .u64 seq, .string key, .slice a14 ((headsOf (⟨R.version, 0, R.epoch⟩) xs.length k (enc xs k n)).length) c15, .slice a6 (enc xs k n).length c7, .slice a20 R.nodes.length c21, .slice none 0 0, .I 0, .I limit, .I 0], _, _, rfl, H.out (wr_mk (l0 := [.int .u64 client]) (y0 := client) (l1 := [.int .u64 seq]) (y1 := seq) (l2 := [.string key]) (y2 := key) (l3 := [.slice a14 ((headsOf (⟨R.version, 0, R.epoch⟩) xs.length k (enc xs k n)).length) c15]) (y3 := headsOf (⟨R.version, 0, R.epoch⟩) xs.length k (enc xs k n)) (l4 := [.slice a6 (enc xs k n).length c7]) (y4 := enc xs k n) (l5 := [.slice a20 R.nodes.length c21]) (y5 := R.nodes) (l6 := [.slice none 0 0]) (y6 := []) (l7 := [.I 0]) (y7 := 0) (l8 := [.I limit]) (y8 := limit) (l9 := [.I 0]) (y9 := 0) u64a u64a ⟨rfl, hkey⟩ (H.rp 2 rfl) (H.rp 3 rfl) (H.rp 1 rfl) Shape.slice_nil (Shape.int_mk (by decide)) i64a (Shape.int_mk (by decide))), H.out (H.rp 0 rfl)⟩


end Go.Proofs.Ytppcdmbkgficiaa
