import Derived.Test.YtppcdmbkgficiaaSG5
namespace Go.Proofs.Ytppcdmbkgficiaa
open Go.BX
def rightW (W : Wr) : Bool := decide (W.heads.length = W.chunks.length ∧ W.heads.length = W.nodes.length)
theorem right_spec {S : Nat → Prop} {w : World} {W : Wr} {cs : List Value} (hW : wrS.rep S w cs W) :
 Calls Try.prog 60 #[.agg cs.toArray] w (Ret fun v w' => Ext w w' ∧ v = .bool (rightW W)) := by
 obtain ⟨a3W, k3W, a4W, k4W, a5W, k5W, a6W, k6W, rfl, h0W, h1W, h2W, h3W, h4W, h5W, h6W, h7W, h8W, h9W⟩ := wr_open hW
 refine qS (fn := Try.f60) (n := 19) (σ := [(0, .agg (wrV W a3W k3W a4W k4W a5W k5W a6W k6W).toArray)]) Try.func60 ?_
 have H := Hp.startF (w := w) (S := S) (G := [Rp (Shape.slice hdrS) [.slice a3W W.heads.length k3W] W.heads, Rp (Shape.slice SB) [.slice a4W W.chunks.length k4W] W.chunks, Rp Li [.slice a5W W.nodes.length k5W] W.nodes, Rp Li [.slice a6W W.acks.length k6W] W.acks]) (.rp h3W (.rp h4W (.rp h5W (.rp h6W .nil))))
 refine qR 1 [.c [0], .c [1]] [(0, .agg (wrV W a3W k3W a4W k4W a5W k5W a6W k6W).toArray)] ?_
 refine qG (sq 0 2) ?_
 refine qB .seq 1 (sq 1 2) ((wrV W a3W k3W a4W k4W a5W k5W a6W k6W).toArray) 32 H ?_
 intro b1 w2 H
 refine qF 1 [(1, .P b1 0)] ?_
 refine qR 1 [.c [1, 0], .c [2]] [(1, .P b1 0)] ?_
 refine qG (sq 0 17) ?_
 refine qP 1 (sq 1 17) [(1, .P b1 0), (3, .P b1 3)] ?_
 refine qL .seq 4 (sq 2 17) 28 b1 3 3 (.slice a3W W.heads.length k3W) (H.cells 0 rfl) ?_
 refine qP 2 (sq 4 17) [(1, .P b1 0), (5, .I ((W.heads.length : Nat) : Int)), (6, .P b1 4)] ?_
 refine qL .seq 7 (sq 5 17) 29 b1 4 4 (.slice a4W W.chunks.length k4W) (H.cells 0 rfl) ?_
 refine qP 3 (sq 8 17) [(1, .P b1 0), (10, .bool (((W.heads.length : Nat) : Int) == ((W.chunks.length : Nat) : Int)))] ?_
 refine tE (fun b_ => [(1, .P b1 0), (10, .bool b_)]) ((W.heads.length : Nat) : Int) ((W.chunks.length : Nat) : Int) (fun h3 => ?_) (fun h3 => ?_)
 ·
  refine qP 1 (sq 9 17) [(1, .P b1 0), (10, .bool true), (11, .P b1 3)] ?_
  refine qL .seq 12 (sq 10 17) 28 b1 3 3 (.slice a3W W.heads.length k3W) (H.cells 0 rfl) ?_
  refine qP 2 (sq 12 17) [(10, .bool true), (13, .I ((W.heads.length : Nat) : Int)), (14, .P b1 5)] ?_
  refine qL .seq 15 (sq 13 17) 25 b1 5 5 (.slice a5W W.nodes.length k5W) (H.cells 0 rfl) ?_
  refine qF 4 [(2, .bool (((W.heads.length : Nat) : Int) == ((W.nodes.length : Nat) : Int)))] ?_
  refine qT (.bool (((W.heads.length : Nat) : Int) == ((W.nodes.length : Nat) : Int))) Try.func60 ?_
  refine ⟨_, rfl, H.done, ?_⟩
  congr 1
  unfold rightW
  rw [Bool.eq_iff_iff]
  simp
  omega
 ·
  refine qF 9 [(2, .bool false)] ?_
  refine qT (.bool false) Try.func60 ?_
  refine ⟨_, rfl, H.done, ?_⟩
  congr 1
  unfold rightW
  exact (decide_eq_false (by omega)).symm
theorem prep1_spec {S : Nat → Prop} {w : World} {W : Wr} {cs : List Value} (hW : wrS.rep S w cs W) {bw : Nat} (hF : (Fc bw 0 cs).p S w) (i : Int) :
 Calls Try.prog 88 #[.I i, .P bw 0] w (Ret fun v w' => Ext w w' ∧ v = .bool (!decide (i ∈ W.acks))) := by
 obtain ⟨a3W, k3W, a4W, k4W, a5W, k5W, a6W, k6W, rfl, h0W, h1W, h2W, h3W, h4W, h5W, h6W, h7W, h8W, h9W⟩ := wr_open hW
 refine qS (fn := Try.f88) (n := 9) (σ := [(0, .I i), (1, .P bw 0)]) Try.func88 ?_
 have H := Hp.startF (w := w) (S := S) (G := [Fc bw 0 (wrV W a3W k3W a4W k4W a5W k5W a6W k6W), Rp Li [.slice a6W W.acks.length k6W] W.acks]) (.cons hF (.rp h6W .nil))
 refine qR 3 [.c [1, 0], .c [2]] [(0, .I i), (1, .P bw 0)] ?_
 refine qG (sq 0 6) ?_
 refine qP 1 (sq 1 6) [(0, .I i), (4, .P bw 6)] ?_
 refine qL .seq 5 (sq 2 6) 25 bw 6 6 (.slice a6W W.acks.length k6W) (H.fc 0 rfl) ?_
 refine qP 1 (sq 3 6) [(5, .slice a6W W.acks.length k6W), (6, .I i)] ?_
 refine qK .seq (some 7) (sq 4 6) 61 #[.slice a6W W.acks.length k6W, .I i] (contains_spec i (H.rp 1 rfl)) ?_
 rintro _ w1 hE2 rfl
 have H := H.ext hE2
 refine qF 2 [(3, .bool (!(decide (i ∈ W.acks))))] ?_
 refine qT (.bool (!(decide (i ∈ W.acks)))) Try.func88 ?_
 exact ⟨_, rfl, H.done, rfl⟩
theorem prep2_spec {S : Nat → Prop} {w : World} {W : Wr} {cs : List Value} (hW : wrS.rep S w cs W) {bw : Nat} (hF : (Fc bw 0 cs).p S w) (i : Nat) (hi : i < W.chunks.length) (hby : (W.chunks[i]).length ≤ 140737488355328) :
 Calls Try.prog 89 #[.I i, .P bw 0] w (Ret fun v w' => Ext w w' ∧ ∃ (a : Option Addr) (c : Nat), v = .agg #[.I 9, .I 0, .I 0, .int .u64 0, .int .u64 0, .int .u64 0, .int .u64 0, .int .u64 0, .bool false, .bool false, .slice none 0 0, .slice none 0 0, .slice none 0 0, .int .u64 0, .I 0, .int .u64 0, .I 0, .I 0, .I 0, .int .u32 0, .slice a (W.chunks[i]).length c, .int .u64 0, .int .u64 0, .I 0, .string (⟨#[]⟩), .I 0, .slice none 0 0] ∧ Hp w S [] [] [⟨Sb, 5, .slice a (W.chunks[i]).length c, W.chunks[i]⟩] [] w') := by
 obtain ⟨a3W, k3W, a4W, k4W, a5W, k5W, a6W, k6W, rfl, h0W, h1W, h2W, h3W, h4W, h5W, h6W, h7W, h8W, h9W⟩ := wr_open hW
 refine qS (fn := Try.f89) (n := 11) (σ := [(0, .I i), (1, .P bw 0)]) Try.func89 ?_
 have H := Hp.startF (w := w) (S := S) (G := [Fc bw 0 (wrV W a3W k3W a4W k4W a5W k5W a6W k6W), Rp (Shape.slice SB) [.slice a4W W.chunks.length k4W] W.chunks]) (.cons hF (.rp h4W .nil))
 refine qR 1 [.c [0], .c [1]] [(0, .I i), (1, .P bw 0)] ?_
 refine qG (sq 0 1) ?_
 refine qB .seq 3 (sq 1 1) ((msgZ).toArray) 57 H ?_
 intro b1 w2 H
 refine qF 0 [(0, .I i), (1, .P bw 0), (3, .P b1 0)] ?_
 refine qR 1 [.c [1, 0], .c [2]] [(0, .I i), (1, .P bw 0), (3, .P b1 0)] ?_
 refine qG (sq 0 8) ?_
 refine qP 1 (sq 1 8) [(0, .I i), (3, .P b1 0), (4, .P bw 4)] ?_
 refine qL .seq 5 (sq 2 8) 29 bw 4 4 (.slice a4W W.chunks.length k4W) (H.fc 0 rfl) ?_
 refine qP 1 (sq 3 8) [(3, .P b1 0), (5, .slice a4W W.chunks.length k4W), (6, .I i)] ?_
 have hx3 : i < W.chunks.length := by omega
 refine qX .seq 7 (sq 4 8) 29 23 (i : Int) SB (W.chunks[i]) H 1 rfl i (by omega) (List.getElem?_eq_getElem hx3) ?_
 intro b4 o5 es6 hr7 H
 obtain ⟨a8, k9, rfl⟩ := Shape.slice_form' hr7
 have H := H.add (F := Rp SB [.slice a8 (W.chunks[i]).length k9] (W.chunks[i])) hr7
 refine qL .seq 8 (sq 5 8) 23 b4 o5 0 (.slice a8 (W.chunks[i]).length k9) (H.fc 1 rfl) ?_
 refine qK .seq (some 9) (sq 6 8) 83 #[.slice a8 (W.chunks[i]).length k9] (bclone_spec (H.rp 0 rfl) (by omega)) ?_
 rintro v11 w10 - H'
 have H := H.back (M1 := []) (W1 := []) H'
 obtain ⟨a12, c13, rfl, hc14, hm15⟩ := H.ownForm 0 rfl
 have H : Hp w S [] [(b1, .cells (msgZ).toArray 57 (0, 0))] [⟨Sb, 5, .slice a12 (W.chunks[i]).length c13, W.chunks[i]⟩] [Rp SB [.slice a8 (W.chunks[i]).length k9] (W.chunks[i]), Fc b4 o5 [.slice a8 (W.chunks[i]).length k9], Fc bw 0 (wrV W a3W k3W a4W k4W a5W k5W a6W k6W), Rp (Shape.slice SB) [.slice a4W W.chunks.length k4W] W.chunks] _ := H
 refine qP 1 (sq 7 8) [(3, .P b1 0), (10, .agg (((msgZ).set 0 (.I 9)).set 20 (.slice a12 (W.chunks[i]).length c13)).toArray)] ?_
 refine qW 57 b1 0 (sq 8 8) (.agg (((msgZ).set 0 (.I 9)).set 20 (.slice a12 (W.chunks[i]).length c13)).toArray) [(b1, .cells (((msgZ).set 0 (.I 9)).set 20 (.slice a12 (W.chunks[i]).length c13)).toArray 57 (0, 0))] H 0 rfl rfl ?_
 intro w16 H
 refine qF 0 [(3, .P b1 0)] ?_
 refine qRB (.agg (((msgZ).set 0 (.I 9)).set 20 (.slice a12 (W.chunks[i]).length c13)).toArray) Try.func89 (v1 (.cell 3 57) (vC (H.cells 0 rfl))) ?_
 have H := H.drop (M' := []) (W' := [⟨Sb, 5, .slice a12 (W.chunks[i]).length c13, W.chunks[i]⟩]) (List.nil_sublist _) (List.Sublist.refl _)
 exact ⟨_, rfl, H.done, _, _, rfl, H.pick [] rfl⟩
def prepOf (W : Wr) (i : Nat) : Msg := ⟨9, 0, W.nodes.getD i 0, 0, 0, 0, 0, 0, false, false, [], ⟨[], []⟩, W.heads.getD i ⟨⟨0, 0, 0⟩, 0, 0, 0, 0#32⟩, W.chunks.getD i [], 0, 0, 0, ⟨#[]⟩, 0, []⟩
def msgsTo (W : Wr) (n : Nat) : List Msg := (List.range n).filterMap fun (i : Nat) => if (i : Int) ∈ W.acks then none else some (prepOf W i)
def msgsOf (W : Wr) : List Msg := msgsTo W W.heads.length
theorem msgsTo_yes {W : Wr} {i : Nat} (h : ¬ (i : Int) ∈ W.acks) : msgsTo W i ++ [prepOf W i] = msgsTo W (i + 1) := by
 unfold msgsTo
 rw [List.range_succ, List.filterMap_append]
 simp [h]
theorem msgsTo_no {W : Wr} {i : Nat} (h : (i : Int) ∈ W.acks) : msgsTo W i = msgsTo W (i + 1) := by
 unfold msgsTo
 rw [List.range_succ, List.filterMap_append]
 simp [h]
theorem msgsTo_le (W : Wr) (i : Nat) : (msgsTo W i).length ≤ i := by
 have := List.length_filterMap_le (fun i : Nat => if (i : Int) ∈ W.acks then none else some (prepOf W i)) (List.range i)
 rwa [List.length_range] at this
theorem getD_at {α : Type} {l : List α} {i : Nat} (d : α) (h : i < l.length) : l.getD i d = l[i] := by
 simp [h]
set_option maxHeartbeats 4000000 in
theorem messages_prep {S : Nat → Prop} {w : World} {W : Wr} {cs : List Value} (hW : wrS.rep S w cs W) {bw : Nat} (hF : (Fc bw 0 cs).p S w) (hR : W.heads.length = W.chunks.length ∧ W.heads.length = W.nodes.length) (hn : W.heads.length ≤ 1000000) (hcb : ∀ c ∈ W.chunks, c.length ≤ 1000000) :
 Calls Try.prog 63 #[.agg cs.toArray, .func (.func 88) #[] #[.P bw 0], .func (.func 89) #[] #[.P bw 0]] w (Ret fun v w' => Ext w w' ∧ ∃ (a : Option Addr) (c : Nat), v = .slice a (msgsOf W).length c ∧ (Shape.slice msgS).rep (Nw S w) w' [.slice a (msgsOf W).length c] (msgsOf W)) := by
 obtain ⟨a3W, k3W, a4W, k4W, a5W, k5W, a6W, k6W, rfl, h0W, h1W, h2W, h3W, h4W, h5W, h6W, h7W, h8W, h9W⟩ := wr_open hW
 refine qS (fn := Try.f63) (n := 39) (σ := [(0, .agg (wrV W a3W k3W a4W k4W a5W k5W a6W k6W).toArray), (1, .func (.func 88) #[] #[.P bw 0]), (2, .func (.func 89) #[] #[.P bw 0])]) Try.func63 ?_
 have H := Hp.startF (w := w) (S := S) (G := [Rp (Shape.slice hdrS) [.slice a3W W.heads.length k3W] W.heads, Rp (Shape.slice SB) [.slice a4W W.chunks.length k4W] W.chunks, Rp Li [.slice a5W W.nodes.length k5W] W.nodes, Rp Li [.slice a6W W.acks.length k6W] W.acks, Fc bw 0 (wrV W a3W k3W a4W k4W a5W k5W a6W k6W)]) (.rp h3W (.rp h4W (.rp h5W (.rp h6W (.cons hF .nil)))))
 refine qR 1 [.c [0], .c [1]] [(0, .agg (wrV W a3W k3W a4W k4W a5W k5W a6W k6W).toArray), (1, .func (.func 88) #[] #[.P bw 0]), (2, .func (.func 89) #[] #[.P bw 0])] ?_
 refine qG (sq 0 2) ?_
 refine qB .seq 3 (sq 1 2) ((wrV W a3W k3W a4W k4W a5W k5W a6W k6W).toArray) 32 H ?_
 intro b1 w2 H
 refine qF 1 [(1, .func (.func 88) #[] #[.P bw 0]), (2, .func (.func 89) #[] #[.P bw 0]), (3, .P b1 0)] ?_
 refine qR 4 [.c [2, 0, 0], .c [2, 0, 1], .c [3]] [(1, .func (.func 88) #[] #[.P bw 0]), (2, .func (.func 89) #[] #[.P bw 0]), (3, .P b1 0), (7, .slice none 0 0)] ?_
 refine qG (sq 0 4) ?_
 refine qP 1 (sq 1 4) [(1, .func (.func 88) #[] #[.P bw 0]), (2, .func (.func 89) #[] #[.P bw 0]), (3, .P b1 0), (7, .slice none 0 0), (11, .P b1 3)] ?_
 refine qL .seq 12 (sq 2 4) 28 b1 3 3 (.slice a3W W.heads.length k3W) (H.cells 0 rfl) ?_
 refine qF 2 [(1, .func (.func 88) #[] #[.P bw 0]), (2, .func (.func 89) #[] #[.P bw 0]), (3, .P b1 0), (7, .slice none 0 0), (12, .slice a3W W.heads.length k3W), (13, .I ((W.heads.length : Nat) : Int)), (14, .I 0)] ?_
 refine qR 1 [.c [2, 0, 1, 0], .b 0, .c [3]] [(1, .func (.func 88) #[] #[.P bw 0]), (2, .func (.func 89) #[] #[.P bw 0]), (3, .P b1 0), (7, .slice none 0 0), (12, .slice a3W W.heads.length k3W), (13, .I ((W.heads.length : Nat) : Int)), (14, .I 0)] ?_
 have H := H.ownNil msgS 57
 refine WK.loop (α := Nat × Option Addr × Nat) (b := cd Try.prog 63 [2, 0, 1, 0, 0]) (by as_aux_lemma => kernel_rfl) (fun st_ => match st_ with | (i, ao, co) => [(1, .func (.func 88) #[] #[.P bw 0]), (2, .func (.func 89) #[] #[.P bw 0]), (3, .P b1 0), (7, .slice ao (msgsTo W i).length co), (12, .slice a3W W.heads.length k3W), (13, .I ((W.heads.length : Nat) : Int)), (14, .I i)]) (fun st_ w' => match st_ with | (i, ao, co) => Hp w S [] [(b1, .cells (wrV W a3W k3W a4W k4W a5W k5W a6W k6W).toArray 32 (0, 0))] [⟨msgS, 57, .slice ao (msgsTo W i).length co, msgsTo W i⟩] [Rp (Shape.slice hdrS) [.slice a3W W.heads.length k3W] W.heads, Rp (Shape.slice SB) [.slice a4W W.chunks.length k4W] W.chunks, Rp Li [.slice a5W W.nodes.length k5W] W.nodes, Rp Li [.slice a6W W.acks.length k6W] W.acks, Fc bw 0 (wrV W a3W k3W a4W k4W a5W k5W a6W k6W)] w' ∧ i ≤ W.heads.length) (fun st_ => match st_ with | (i, ao, co) => W.heads.length - i) (0, none, 0) ⟨H, Nat.zero_le _⟩ (rfl) ?_
 rintro ⟨i, ao, co⟩ w4 ⟨H, hinv0⟩ hback3
 have hml := msgsTo_le W i
 refine qR 3 [.c [2, 0, 1, 0, 0, 1, 0], .c [2, 0, 1, 0, 0, 2], .l [2, 0, 1, 0, 0], .b 0, .c [3]] [(1, .func (.func 88) #[] #[.P bw 0]), (2, .func (.func 89) #[] #[.P bw 0]), (3, .P b1 0), (7, .slice ao (msgsTo W i).length co), (12, .slice a3W W.heads.length k3W), (13, .I ((W.heads.length : Nat) : Int)), (14, .I i), (15, .bool (decide (((i : Int) : Int) < ((W.heads.length : Nat) : Int))))] ?_
 refine qD (((i : Int) : Int) < ((W.heads.length : Nat) : Int)) (fun h5 => ?_) (fun h5 => ?_)
 ·
  refine qR 4 [.c [2, 0, 1, 0, 0, 2, 0, 0, 0], .c [2, 0, 1, 0, 0, 2, 0, 0, 1], .b 1, .c [2, 0, 1, 0, 0, 3], .l [2, 0, 1, 0, 0], .b 0, .c [3]] [(1, .func (.func 88) #[] #[.P bw 0]), (2, .func (.func 89) #[] #[.P bw 0]), (3, .P b1 0), (7, .slice ao (msgsTo W i).length co), (12, .slice a3W W.heads.length k3W), (13, .I ((W.heads.length : Nat) : Int)), (14, .I i)] ?_
  refine qG (sq 0 6) ?_
  refine qP 1 (sq 1 6) [(1, .func (.func 88) #[] #[.P bw 0]), (2, .func (.func 89) #[] #[.P bw 0]), (3, .P b1 0), (7, .slice ao (msgsTo W i).length co), (12, .slice a3W W.heads.length k3W), (13, .I ((W.heads.length : Nat) : Int)), (14, .I i), (16, .I i)] ?_
  have hx6 : i < W.heads.length := by omega
  refine qX .seq 17 (sq 2 6) 28 53 (i : Int) hdrS (W.heads[i]) H 0 rfl i (by omega) (List.getElem?_eq_getElem hx6) ?_
  intro b7 o8 es9 hr10 H
  obtain ⟨cs0q11, rfl, hf12, hf13, hf14, hf15⟩ := hdr_open hr10
  obtain ⟨rfl, hf17, hf18, hf19⟩ := cid_open hf12
  refine qL .seq 18 (sq 3 6) 53 b7 o8 0 (.agg (hdrV (W.heads[i])).toArray) (H.fc 0 rfl) ?_
  refine qB .seq 9 (sq 4 6) #[.int .u64 0, .I 0, .int .u64 0, .I 0, .I 0, .I 0, .int .u32 0] 53 H ?_
  intro b20 w21 H
  refine qP 1 (sq 5 6) [(1, .func (.func 88) #[] #[.P bw 0]), (2, .func (.func 89) #[] #[.P bw 0]), (3, .P b1 0), (7, .slice ao (msgsTo W i).length co), (8, .I i), (9, .P b20 0), (12, .slice a3W W.heads.length k3W), (13, .I ((W.heads.length : Nat) : Int)), (14, .I i), (18, .agg (hdrV (W.heads[i])).toArray)] ?_
  refine qW 53 b20 0 (sq 6 6) (.agg (hdrV (W.heads[i])).toArray) [(b20, .cells (hdrV (W.heads[i])).toArray 53 (0, 0)), (b1, .cells (wrV W a3W k3W a4W k4W a5W k5W a6W k6W).toArray 32 (0, 0))] H 0 rfl rfl ?_
  intro w22 H
  refine qF 0 [(1, .func (.func 88) #[] #[.P bw 0]), (2, .func (.func 89) #[] #[.P bw 0]), (3, .P b1 0), (7, .slice ao (msgsTo W i).length co), (8, .I i), (9, .P b20 0), (12, .slice a3W W.heads.length k3W), (13, .I ((W.heads.length : Nat) : Int)), (14, .I i)] ?_
  refine qR 1 [.c [2, 0, 1, 0, 0, 2, 0, 0, 1, 0], .c [2, 0, 1, 0, 0, 2, 0, 0, 2], .b 1, .c [2, 0, 1, 0, 0, 3], .l [2, 0, 1, 0, 0], .b 0, .c [3]] [(1, .func (.func 88) #[] #[.P bw 0]), (2, .func (.func 89) #[] #[.P bw 0]), (3, .P b1 0), (7, .slice ao (msgsTo W i).length co), (8, .I i), (9, .P b20 0), (12, .slice a3W W.heads.length k3W), (13, .I ((W.heads.length : Nat) : Int)), (14, .I i)] ?_
  refine qG (sq 0 3) ?_
  refine qP 2 (sq 2 3) [(1, .func (.func 88) #[] #[.P bw 0]), (2, .func (.func 89) #[] #[.P bw 0]), (3, .P b1 0), (7, .slice ao (msgsTo W i).length co), (8, .I i), (9, .P b20 0), (12, .slice a3W W.heads.length k3W), (13, .I ((W.heads.length : Nat) : Int)), (14, .I i), (19, .func (.func 88) #[] #[.P bw 0]), (20, .I i)] ?_
  refine qK .seq (some 21) (sq 3 3) 88 #[.I i, .P bw 0] (prep1_spec (W := W) (wr_mkV u64a u64a ⟨rfl, h2W⟩ (H.rp 1 rfl) (H.rp 2 rfl) (H.rp 3 rfl) (H.rp 4 rfl) i64a i64a i64a) (H.fact 5 rfl) (i : Int)) ?_
  rintro _ w23 hE24 rfl
  have H := H.ext hE24
  refine qF 0 [(1, .func (.func 88) #[] #[.P bw 0]), (2, .func (.func 89) #[] #[.P bw 0]), (3, .P b1 0), (7, .slice ao (msgsTo W i).length co), (8, .I i), (9, .P b20 0), (12, .slice a3W W.heads.length k3W), (13, .I ((W.heads.length : Nat) : Int)), (14, .I i), (21, .bool (!decide ((i : Int) ∈ W.acks)))] ?_
  refine qC (!decide ((i : Int) ∈ W.acks)) (fun h25 => ?_) (fun h25 => ?_)
  ·
   replace h25 : (decide ((i : Int) ∈ W.acks)) = false := by revert h25; cases (decide ((i : Int) ∈ W.acks)) <;> simp
   replace h25 := of_decide_eq_false h25
   refine qR 1 [.c [2, 0, 1, 0, 0, 2, 0, 0, 2, 0, 0], .c [2, 0, 1, 0, 0, 2, 0, 0, 2, 0, 1], .b 1, .c [2, 0, 1, 0, 0, 3], .l [2, 0, 1, 0, 0], .b 0, .c [3]] [(1, .func (.func 88) #[] #[.P bw 0]), (2, .func (.func 89) #[] #[.P bw 0]), (3, .P b1 0), (7, .slice ao (msgsTo W i).length co), (8, .I i), (9, .P b20 0), (12, .slice a3W W.heads.length k3W), (13, .I ((W.heads.length : Nat) : Int)), (14, .I i)] ?_
   refine qG (sq 0 5) ?_
   refine qP 2 (sq 2 5) [(1, .func (.func 88) #[] #[.P bw 0]), (2, .func (.func 89) #[] #[.P bw 0]), (3, .P b1 0), (7, .slice ao (msgsTo W i).length co), (8, .I i), (9, .P b20 0), (12, .slice a3W W.heads.length k3W), (13, .I ((W.heads.length : Nat) : Int)), (14, .I i), (22, .func (.func 89) #[] #[.P bw 0]), (23, .I i)] ?_
   refine qK .seq (some 24) (sq 3 5) 89 #[.I i, .P bw 0] (prep2_spec (S := Av S w [] (idsOf [(b20, .cells (hdrV (W.heads[i])).toArray 53 (0, 0)), (b1, .cells (wrV W a3W k3W a4W k4W a5W k5W a6W k6W).toArray 32 (0, 0))] [⟨msgS, 57, .slice ao (msgsTo W i).length co, msgsTo W i⟩])) (W := W) (wr_mkV u64a u64a ⟨rfl, h2W⟩ (H.rp 1 rfl) (H.rp 2 rfl) (H.rp 3 rfl) (H.rp 4 rfl) i64a i64a i64a) (H.fact 5 rfl) i (by omega) (by have := hcb (W.chunks[i]) (List.getElem_mem _); omega)) ?_
   rintro _ w26 - ⟨a27, c28, rfl, H'⟩
   have H := H.back (M1 := []) (W1 := []) H'
   have H : Hp w S [] [(b20, .cells (hdrV (W.heads[i])).toArray 53 (0, 0)), (b1, .cells (wrV W a3W k3W a4W k4W a5W k5W a6W k6W).toArray 32 (0, 0))] [⟨Sb, 5, .slice a27 (W.chunks[i]).length c28, (W.chunks[i])⟩, ⟨msgS, 57, .slice ao (msgsTo W i).length co, msgsTo W i⟩] [Fc b7 o8 (hdrV (W.heads[i])), Rp (Shape.slice hdrS) [.slice a3W W.heads.length k3W] W.heads, Rp (Shape.slice SB) [.slice a4W W.chunks.length k4W] W.chunks, Rp Li [.slice a5W W.nodes.length k5W] W.nodes, Rp Li [.slice a6W W.acks.length k6W] W.acks, Fc bw 0 (wrV W a3W k3W a4W k4W a5W k5W a6W k6W)] _ := H
   refine qB .seq 10 (sq 4 5) ((msgZ).toArray) 57 H ?_
   intro b29 w30 H
   refine qW 57 b29 0 (sq 5 5) (.agg (((msgZ).set 0 (.I 9)).set 20 (.slice a27 (W.chunks[i]).length c28)).toArray) [(b29, .cells (((msgZ).set 0 (.I 9)).set 20 (.slice a27 (W.chunks[i]).length c28)).toArray 57 (0, 0)), (b20, .cells (hdrV (W.heads[i])).toArray 53 (0, 0)), (b1, .cells (wrV W a3W k3W a4W k4W a5W k5W a6W k6W).toArray 32 (0, 0))] H 0 rfl rfl ?_
   intro w31 H
   refine qF 0 [(1, .func (.func 88) #[] #[.P bw 0]), (2, .func (.func 89) #[] #[.P bw 0]), (3, .P b1 0), (7, .slice ao (msgsTo W i).length co), (8, .I i), (9, .P b20 0), (10, .P b29 0), (12, .slice a3W W.heads.length k3W), (13, .I ((W.heads.length : Nat) : Int)), (14, .I i)] ?_
   refine qR 1 [.c [2, 0, 1, 0, 0, 2, 0, 0, 2, 0, 1, 0], .c [2, 0, 1, 0, 0, 2, 0, 0, 2, 0, 2], .b 1, .c [2, 0, 1, 0, 0, 3], .l [2, 0, 1, 0, 0], .b 0, .c [3]] [(1, .func (.func 88) #[] #[.P bw 0]), (2, .func (.func 89) #[] #[.P bw 0]), (3, .P b1 0), (7, .slice ao (msgsTo W i).length co), (8, .I i), (9, .P b20 0), (10, .P b29 0), (12, .slice a3W W.heads.length k3W), (13, .I ((W.heads.length : Nat) : Int)), (14, .I i)] ?_
   refine WK.drawH1 [b29] (.leaf [(0, .qui), (1, .qui), (2, .qui), (3, .qui), (4, .qui), (5, .qui), (6, .qui), (7, .seq), (8, .qui), (9, .seq)]) Try_mixed (by as_aux_lemma => kernel_rfl) (by as_aux_lemma => kernel_rfl) ?_
   intro w32 hw33
   have H := H.draw
   rw [← hw33] at H
   clear hw33
   have hS := Chg.refl w32 [b29]
   refine RG.leaf' [(0, .qui), (1, .qui), (2, .qui), (3, .qui), (4, .qui), (5, .qui), (6, .qui), (7, .seq), (8, .qui), (9, .seq)] (by as_aux_lemma => kernel_rfl) ?_
   refine qHP hS 1 [(1, .qui), (2, .qui), (3, .qui), (4, .qui), (5, .qui), (6, .qui), (7, .seq), (8, .qui), (9, .seq)] [(1, .func (.func 88) #[] #[.P bw 0]), (2, .func (.func 89) #[] #[.P bw 0]), (3, .P b1 0), (7, .slice ao (msgsTo W i).length co), (8, .I i), (9, .P b20 0), (10, .P b29 0), (12, .slice a3W W.heads.length k3W), (13, .I ((W.heads.length : Nat) : Int)), (14, .I i), (25, .P b1 5)] ?_
   refine qHL 26 [(2, .qui), (3, .qui), (4, .qui), (5, .qui), (6, .qui), (7, .seq), (8, .qui), (9, .seq)] 25 b1 5 5 (.slice a5W W.nodes.length k5W) hS (H.cells 2 rfl) (nq1 (H.raws 2 0 rfl rfl (by decide))) ?_
   refine qHP hS 1 [(3, .qui), (4, .qui), (5, .qui), (6, .qui), (7, .seq), (8, .qui), (9, .seq)] [(1, .func (.func 88) #[] #[.P bw 0]), (2, .func (.func 89) #[] #[.P bw 0]), (3, .P b1 0), (7, .slice ao (msgsTo W i).length co), (9, .P b20 0), (10, .P b29 0), (12, .slice a3W W.heads.length k3W), (13, .I ((W.heads.length : Nat) : Int)), (14, .I i), (26, .slice a5W W.nodes.length k5W), (27, .I i)] ?_
   have hx34 : i < W.nodes.length := by omega
   refine RH.index (d := some 28) (r := [(4, .qui), (5, .qui), (6, .qui), (7, .seq), (8, .qui), (9, .seq)]) (T := 25) (e := 3) (ik := .i64) (ix := (i : Int)) (sh := Si) (x := W.nodes[i]) (by as_aux_lemma => kernel_rfl) hS (by as_aux_lemma => kernel_rfl) H 3 rfl i (by omega) (List.getElem?_eq_getElem hx34) ?_
   intro b35 o36 es37 hr38 H
   have hb39 := Shape.i64_bd hr38
   obtain ⟨rfl, -⟩ := hr38
   refine qHL 29 [(5, .qui), (6, .qui), (7, .seq), (8, .qui), (9, .seq)] 3 b35 o36 0 (.I (W.nodes[i])) hS (H.fc 0 rfl) (nq1 (H.fcne 0 rfl 0 rfl)) ?_
   refine qHL 30 [(6, .qui), (7, .seq), (8, .qui), (9, .seq)] 53 b20 0 0 (.agg (hdrV (W.heads[i])).toArray) hS (H.cells 1 rfl) (nq1 (H.raws 1 0 rfl rfl (by decide))) ?_
   refine qHP hS 1 [(7, .seq), (8, .qui), (9, .seq)] [(1, .func (.func 88) #[] #[.P bw 0]), (2, .func (.func 89) #[] #[.P bw 0]), (3, .P b1 0), (7, .slice ao (msgsTo W i).length co), (10, .P b29 0), (12, .slice a3W W.heads.length k3W), (13, .I ((W.heads.length : Nat) : Int)), (14, .I i), (29, .I (W.nodes[i])), (30, .agg (hdrV (W.heads[i])).toArray), (31, .P b29 2)] ?_
   have Hr := H
   refine RH.sto ?_
   refine qWC 3 b29 2 [] (.I (W.nodes[i])) [(b29, .cells ((((msgZ).set 0 (.I 9)).set 2 (.I (W.nodes[i]))).set 20 (.slice a27 (W.chunks[i]).length c28)).toArray 57 (0, 0)), (b20, .cells (hdrV (W.heads[i])).toArray 53 (0, 0)), (b1, .cells (wrV W a3W k3W a4W k4W a5W k5W a6W k6W).toArray 32 (0, 0))] H 0 rfl rfl ?_
   intro w41 hch40 H
   have hS42 := hS.sto hch40 (.inr (by simp))
   refine ⟨hS42, ?_⟩
   have hS := hS42
   refine qHP hS 1 [(9, .seq)] [(1, .func (.func 88) #[] #[.P bw 0]), (2, .func (.func 89) #[] #[.P bw 0]), (3, .P b1 0), (7, .slice ao (msgsTo W i).length co), (10, .P b29 0), (12, .slice a3W W.heads.length k3W), (13, .I ((W.heads.length : Nat) : Int)), (14, .I i), (30, .agg (hdrV (W.heads[i])).toArray), (32, .P b29 13)] ?_
   refine RH.sto ?_
   refine qWC 53 b29 13 [] (.agg (hdrV (W.heads[i])).toArray) [(b29, .cells #[.I 9, .I 0, .I (W.nodes[i]), .int .u64 0, .int .u64 0, .int .u64 0, .int .u64 0, .int .u64 0, .bool false, .bool false, .slice none 0 0, .slice none 0 0, .slice none 0 0, .int .u64 (((W.heads[i]).id).version), .I (((W.heads[i]).id).index), .int .u64 (((W.heads[i]).id).epoch), .I ((W.heads[i]).kk), .I ((W.heads[i]).nn), .I ((W.heads[i]).size), .int .u32 ((((W.heads[i]).sum).toNat : Nat) : Int), .slice a27 (W.chunks[i]).length c28, .int .u64 0, .int .u64 0, .I 0, .string (⟨#[]⟩), .I 0, .slice none 0 0] 57 (0, 0)), (b20, .cells (hdrV (W.heads[i])).toArray 53 (0, 0)), (b1, .cells (wrV W a3W k3W a4W k4W a5W k5W a6W k6W).toArray 32 (0, 0))] H 0 rfl rfl ?_
   intro w44 hch43 H
   have hS45 := hS.sto hch43 (.inr (by simp))
   refine ⟨hS45, ?_⟩
   have hS := hS45
   refine RH.fin hS 0 [1, 2, 3, 7, 10, 12, 13, 14] [(1, .func (.func 88) #[] #[.P bw 0]), (2, .func (.func 89) #[] #[.P bw 0]), (3, .P b1 0), (7, .slice ao (msgsTo W i).length co), (10, .P b29 0), (12, .slice a3W W.heads.length k3W), (13, .I ((W.heads.length : Nat) : Int)), (14, .I i)] (by as_aux_lemma => kernel_rfl) ?_
   refine qG (sq 0 5) ?_
   refine qP 1 (sq 1 5) [(1, .func (.func 88) #[] #[.P bw 0]), (2, .func (.func 89) #[] #[.P bw 0]), (3, .P b1 0), (7, .slice ao (msgsTo W i).length co), (10, .P b29 0), (12, .slice a3W W.heads.length k3W), (13, .I ((W.heads.length : Nat) : Int)), (14, .I i), (33, .slice ao (msgsTo W i).length co)] ?_
   refine qL .seq 34 (sq 2 5) 57 b29 0 0 (.agg #[.I 9, .I 0, .I (W.nodes[i]), .int .u64 0, .int .u64 0, .int .u64 0, .int .u64 0, .int .u64 0, .bool false, .bool false, .slice none 0 0, .slice none 0 0, .slice none 0 0, .int .u64 (((W.heads[i]).id).version), .I (((W.heads[i]).id).index), .int .u64 (((W.heads[i]).id).epoch), .I ((W.heads[i]).kk), .I ((W.heads[i]).nn), .I ((W.heads[i]).size), .int .u32 ((((W.heads[i]).sum).toNat : Nat) : Int), .slice a27 (W.chunks[i]).length c28, .int .u64 0, .int .u64 0, .I 0, .string (⟨#[]⟩), .I 0, .slice none 0 0]) (H.cells 0 rfl) ?_
   refine RW.new (κ := .seq) (d := some 35) (r := (sq 3 5)) (o := .cells #[.I 9, .I 0, .I (W.nodes[i]), .int .u64 0, .int .u64 0, .int .u64 0, .int .u64 0, .int .u64 0, .bool false, .bool false, .slice none 0 0, .slice none 0 0, .slice none 0 0, .int .u64 (((W.heads[i]).id).version), .I (((W.heads[i]).id).index), .int .u64 (((W.heads[i]).id).epoch), .I ((W.heads[i]).kk), .I ((W.heads[i]).nn), .I ((W.heads[i]).size), .int .u32 ((((W.heads[i]).sum).toNat : Nat) : Int), .slice a27 (W.chunks[i]).length c28, .int .u64 0, .int .u64 0, .I 0, .string (⟨#[]⟩), .I 0, .slice none 0 0] 57 (0, 0)) (v := fun b => .slice (some ⟨b, 0, none⟩) 1 1) (fun b => by as_aux_lemma => kernel_rfl) (nofun) H ?_
   intro b46 w47 H
   have H : Hp w S [] [(b46, .cells #[.I 9, .I 0, .I (W.nodes[i]), .int .u64 0, .int .u64 0, .int .u64 0, .int .u64 0, .int .u64 0, .bool false, .bool false, .slice none 0 0, .slice none 0 0, .slice none 0 0, .int .u64 (((W.heads[i]).id).version), .I (((W.heads[i]).id).index), .int .u64 (((W.heads[i]).id).epoch), .I ((W.heads[i]).kk), .I ((W.heads[i]).nn), .I ((W.heads[i]).size), .int .u32 ((((W.heads[i]).sum).toNat : Nat) : Int), .slice a27 (W.chunks[i]).length c28, .int .u64 0, .int .u64 0, .I 0, .string (⟨#[]⟩), .I 0, .slice none 0 0] 57 (0, 0)), (b29, .cells #[.I 9, .I 0, .I (W.nodes[i]), .int .u64 0, .int .u64 0, .int .u64 0, .int .u64 0, .int .u64 0, .bool false, .bool false, .slice none 0 0, .slice none 0 0, .slice none 0 0, .int .u64 (((W.heads[i]).id).version), .I (((W.heads[i]).id).index), .int .u64 (((W.heads[i]).id).epoch), .I ((W.heads[i]).kk), .I ((W.heads[i]).nn), .I ((W.heads[i]).size), .int .u32 ((((W.heads[i]).sum).toNat : Nat) : Int), .slice a27 (W.chunks[i]).length c28, .int .u64 0, .int .u64 0, .I 0, .string (⟨#[]⟩), .I 0, .slice none 0 0] 57 (0, 0)), (b20, .cells (hdrV (W.heads[i])).toArray 53 (0, 0)), (b1, .cells (wrV W a3W k3W a4W k4W a5W k5W a6W k6W).toArray 32 (0, 0))] [⟨msgS, 57, .slice ao (msgsTo W i).length co, msgsTo W i⟩] [Rp SB [.slice a27 (W.chunks[i]).length c28] (W.chunks[i]), Fc b35 o36 [.I (W.nodes[i])], Fc b7 o8 (hdrV (W.heads[i])), Rp (Shape.slice hdrS) [.slice a3W W.heads.length k3W] W.heads, Rp (Shape.slice SB) [.slice a4W W.chunks.length k4W] W.chunks, Rp Li [.slice a5W W.nodes.length k5W] W.nodes, Rp Li [.slice a6W W.acks.length k6W] W.acks, Fc bw 0 (wrV W a3W k3W a4W k4W a5W k5W a6W k6W)] _ := H.freezeW 0 rfl
   have H := H.freeze 0 rfl msgS ([⟨9, 0, W.nodes[i], 0, 0, 0, 0, 0, false, false, [], ⟨[], []⟩, ⟨((W.heads[i]).id), (W.heads[i]).kk, (W.heads[i]).nn, (W.heads[i]).size, (W.heads[i]).sum⟩, (W.chunks[i]), 0, 0, 0, ⟨#[]⟩, 0, []⟩] : List Msg) 1 (by simp [maxLen]) (by first | exact Nat.le_refl _ | simp) (EsP.cons (c := [.I 9, .I 0, .I (W.nodes[i]), .int .u64 0, .int .u64 0, .int .u64 0, .int .u64 0, .int .u64 0, .bool false, .bool false, .slice none 0 0, .slice none 0 0, .slice none 0 0, .int .u64 (((W.heads[i]).id).version), .I (((W.heads[i]).id).index), .int .u64 (((W.heads[i]).id).epoch), .I ((W.heads[i]).kk), .I ((W.heads[i]).nn), .I ((W.heads[i]).size), .int .u32 ((((W.heads[i]).sum).toNat : Nat) : Int), .slice a27 (W.chunks[i]).length c28, .int .u64 0, .int .u64 0, .I 0, .string (⟨#[]⟩), .I 0, .slice none 0 0]) (msg_mk (l0 := [.I 9]) (y0 := 9) (l1 := [.I 0]) (y1 := 0) (l2 := [.I (W.nodes[i])]) (y2 := W.nodes[i]) (l3 := [.int .u64 0]) (y3 := 0) (l4 := [.int .u64 0]) (y4 := 0) (l5 := [.int .u64 0]) (y5 := 0) (l6 := [.int .u64 0]) (y6 := 0) (l7 := [.int .u64 0]) (y7 := 0) (l8 := [.bool false]) (y8 := false) (l9 := [.bool false]) (y9 := false) (l10 := [.slice none 0 0]) (y10 := []) (l11 := [.slice none 0 0, .slice none 0 0]) (y11 := ⟨[], []⟩) (l12 := [.int .u64 (((W.heads[i]).id).version), .I (((W.heads[i]).id).index), .int .u64 (((W.heads[i]).id).epoch), .I ((W.heads[i]).kk), .I ((W.heads[i]).nn), .I ((W.heads[i]).size), .int .u32 ((((W.heads[i]).sum).toNat : Nat) : Int)]) (y12 := ⟨((W.heads[i]).id), (W.heads[i]).kk, (W.heads[i]).nn, (W.heads[i]).size, (W.heads[i]).sum⟩) (l13 := [.slice a27 (W.chunks[i]).length c28]) (y13 := (W.chunks[i])) (l14 := [.int .u64 0]) (y14 := 0) (l15 := [.int .u64 0]) (y15 := 0) (l16 := [.I 0]) (y16 := 0) (l17 := [.string (⟨#[]⟩)]) (y17 := ⟨#[]⟩) (l18 := [.I 0]) (y18 := 0) (l19 := [.slice none 0 0]) (y19 := []) (Shape.int_mk (by decide)) (Shape.int_mk (by decide)) i64a (Shape.int_mk (by decide)) (Shape.int_mk (by decide)) (Shape.int_mk (by decide)) (Shape.int_mk (by decide)) (Shape.int_mk (by decide)) Shape.bool_mk Shape.bool_mk Shape.slice_nil (conf_mk Shape.slice_nil Shape.slice_nil) (hdr_mk (cid_mk u64a i64a u64a) i64a i64a i64a Shape.bv_mk) (H.rp 0 rfl) (Shape.int_mk (by decide)) (Shape.int_mk (by decide)) (Shape.int_mk (by decide)) ⟨rfl, by first | assumption | (simp [maxLen]; done) | decide⟩ (Shape.int_mk (by decide)) Shape.slice_nil) EsP.nil)
   have H : Hp w S [] [(b29, .cells #[.I 9, .I 0, .I (W.nodes[i]), .int .u64 0, .int .u64 0, .int .u64 0, .int .u64 0, .int .u64 0, .bool false, .bool false, .slice none 0 0, .slice none 0 0, .slice none 0 0, .int .u64 (((W.heads[i]).id).version), .I (((W.heads[i]).id).index), .int .u64 (((W.heads[i]).id).epoch), .I ((W.heads[i]).kk), .I ((W.heads[i]).nn), .I ((W.heads[i]).size), .int .u32 ((((W.heads[i]).sum).toNat : Nat) : Int), .slice a27 (W.chunks[i]).length c28, .int .u64 0, .int .u64 0, .I 0, .string (⟨#[]⟩), .I 0, .slice none 0 0] 57 (0, 0)), (b20, .cells (hdrV (W.heads[i])).toArray 53 (0, 0)), (b1, .cells (wrV W a3W k3W a4W k4W a5W k5W a6W k6W).toArray 32 (0, 0))] [⟨msgS, 57, .slice ao (msgsTo W i).length co, msgsTo W i⟩] [Rp (Shape.slice msgS) [.slice (some ⟨b46, 0, none⟩) 1 1] ([⟨9, 0, W.nodes[i], 0, 0, 0, 0, 0, false, false, [], ⟨[], []⟩, ⟨((W.heads[i]).id), (W.heads[i]).kk, (W.heads[i]).nn, (W.heads[i]).size, (W.heads[i]).sum⟩, (W.chunks[i]), 0, 0, 0, ⟨#[]⟩, 0, []⟩] : List Msg), Rp SB [.slice a27 (W.chunks[i]).length c28] (W.chunks[i]), Fc b35 o36 [.I (W.nodes[i])], Fc b7 o8 (hdrV (W.heads[i])), Rp (Shape.slice hdrS) [.slice a3W W.heads.length k3W] W.heads, Rp (Shape.slice SB) [.slice a4W W.chunks.length k4W] W.chunks, Rp Li [.slice a5W W.nodes.length k5W] W.nodes, Rp Li [.slice a6W W.acks.length k6W] W.acks, Fc bw 0 (wrV W a3W k3W a4W k4W a5W k5W a6W k6W)] _ := H
   refine RW.appendW (d := some 36) (r := (sq 4 5)) (T := 33) (ty := 33) (e := 57) (m := 27) (by_ := 296) (v := .slice ao (msgsTo W i).length co) (a2 := (some ⟨b46, 0, none⟩)) (l2 := 1) (c2 := 1) (zs := msgsTo W (i + 1)) (by as_aux_lemma => kernel_rfl) (by as_aux_lemma => kernel_rfl) rfl H 0 rfl 0 rfl (by rw [← msgsTo_yes (by first | assumption | simp_all)]; unfold prepOf; rw [getD_at _ (by omega), getD_at _ (by omega), getD_at _ (by omega)]) (by have := msgsTo_le W (i + 1); omega) ?_
   intro a48 c49 w51 H hc50
   have H : Hp w S [] [(b29, .cells #[.I 9, .I 0, .I (W.nodes[i]), .int .u64 0, .int .u64 0, .int .u64 0, .int .u64 0, .int .u64 0, .bool false, .bool false, .slice none 0 0, .slice none 0 0, .slice none 0 0, .int .u64 (((W.heads[i]).id).version), .I (((W.heads[i]).id).index), .int .u64 (((W.heads[i]).id).epoch), .I ((W.heads[i]).kk), .I ((W.heads[i]).nn), .I ((W.heads[i]).size), .int .u32 ((((W.heads[i]).sum).toNat : Nat) : Int), .slice a27 (W.chunks[i]).length c28, .int .u64 0, .int .u64 0, .I 0, .string (⟨#[]⟩), .I 0, .slice none 0 0] 57 (0, 0)), (b20, .cells (hdrV (W.heads[i])).toArray 53 (0, 0)), (b1, .cells (wrV W a3W k3W a4W k4W a5W k5W a6W k6W).toArray 32 (0, 0))] [⟨msgS, 57, .slice a48 ((msgsTo W (i + 1)).length) c49, msgsTo W (i + 1)⟩] [Rp (Shape.slice msgS) [.slice (some ⟨b46, 0, none⟩) 1 1] ([⟨9, 0, W.nodes[i], 0, 0, 0, 0, 0, false, false, [], ⟨[], []⟩, ⟨((W.heads[i]).id), (W.heads[i]).kk, (W.heads[i]).nn, (W.heads[i]).size, (W.heads[i]).sum⟩, (W.chunks[i]), 0, 0, 0, ⟨#[]⟩, 0, []⟩] : List Msg), Rp SB [.slice a27 (W.chunks[i]).length c28] (W.chunks[i]), Fc b35 o36 [.I (W.nodes[i])], Fc b7 o8 (hdrV (W.heads[i])), Rp (Shape.slice hdrS) [.slice a3W W.heads.length k3W] W.heads, Rp (Shape.slice SB) [.slice a4W W.chunks.length k4W] W.chunks, Rp Li [.slice a5W W.nodes.length k5W] W.nodes, Rp Li [.slice a6W W.acks.length k6W] W.acks, Fc bw 0 (wrV W a3W k3W a4W k4W a5W k5W a6W k6W)] _ := H
   refine qF 1 [(1, .func (.func 88) #[] #[.P bw 0]), (2, .func (.func 89) #[] #[.P bw 0]), (3, .P b1 0), (7, .slice a48 ((msgsTo W (i + 1)).length) c49), (12, .slice a3W W.heads.length k3W), (13, .I ((W.heads.length : Nat) : Int)), (14, .I i)] ?_
   refine qR 1 [.c [2, 0, 1, 0, 0, 3], .l [2, 0, 1, 0, 0], .b 0, .c [3]] [(1, .func (.func 88) #[] #[.P bw 0]), (2, .func (.func 89) #[] #[.P bw 0]), (3, .P b1 0), (7, .slice a48 ((msgsTo W (i + 1)).length) c49), (12, .slice a3W W.heads.length k3W), (13, .I ((W.heads.length : Nat) : Int)), (14, .I i)] ?_
   refine qG (sq 0 2) ?_
   refine qI .seq 37 (sq 1 2) ((i : Int) + 1) ?_
   refine qF 1 [(1, .func (.func 88) #[] #[.P bw 0]), (2, .func (.func 89) #[] #[.P bw 0]), (3, .P b1 0), (7, .slice a48 ((msgsTo W (i + 1)).length) c49), (12, .slice a3W W.heads.length k3W), (13, .I ((W.heads.length : Nat) : Int)), (14, .I ((i : Int) + 1))] ?_
   have H := H.pick [4, 5, 6, 7, 8] rfl
   have H := H.frontM 2 (M' := [(b1, .cells (wrV W a3W k3W a4W k4W a5W k5W a6W k6W).toArray 32 (0, 0)), (b29, .cells #[.I 9, .I 0, .I (W.nodes[i]), .int .u64 0, .int .u64 0, .int .u64 0, .int .u64 0, .int .u64 0, .bool false, .bool false, .slice none 0 0, .slice none 0 0, .slice none 0 0, .int .u64 (((W.heads[i]).id).version), .I (((W.heads[i]).id).index), .int .u64 (((W.heads[i]).id).epoch), .I ((W.heads[i]).kk), .I ((W.heads[i]).nn), .I ((W.heads[i]).size), .int .u32 ((((W.heads[i]).sum).toNat : Nat) : Int), .slice a27 (W.chunks[i]).length c28, .int .u64 0, .int .u64 0, .I 0, .string (⟨#[]⟩), .I 0, .slice none 0 0] 57 (0, 0)), (b20, .cells (hdrV (W.heads[i])).toArray 53 (0, 0))]) rfl
   have H := H.drop (M' := [(b1, .cells (wrV W a3W k3W a4W k4W a5W k5W a6W k6W).toArray 32 (0, 0))]) (W' := [⟨msgS, 57, .slice a48 ((msgsTo W (i + 1)).length) c49, msgsTo W (i + 1)⟩]) (by repeat (first | exact List.Sublist.refl _ | apply List.Sublist.cons_cons | apply List.Sublist.cons)) (by repeat (first | exact List.Sublist.refl _ | apply List.Sublist.cons_cons | apply List.Sublist.cons))
   exact WK.back (hback3 (i + 1, a48, c49) _ ⟨H, by omega⟩ (by first | omega | (simp only []; omega))) (by first | rfl | (rw [msgsTo_no hin9]; rfl))
  ·
   replace h25 : (decide ((i : Int) ∈ W.acks)) = true := by revert h25; cases (decide ((i : Int) ∈ W.acks)) <;> simp
   replace h25 := of_decide_eq_true h25
   have hin9 : (i : Int) ∈ W.acks := by first | (exact Decidable.byContradiction h25) | (have hq := h25; simpa using hq)
   refine qR 2 [.c [2, 0, 1, 0, 0, 3], .l [2, 0, 1, 0, 0], .b 0, .c [3]] [(1, .func (.func 88) #[] #[.P bw 0]), (2, .func (.func 89) #[] #[.P bw 0]), (3, .P b1 0), (7, .slice ao (msgsTo W i).length co), (12, .slice a3W W.heads.length k3W), (13, .I ((W.heads.length : Nat) : Int)), (14, .I i)] ?_
   refine qG (sq 0 2) ?_
   refine qI .seq 37 (sq 1 2) ((i : Int) + 1) ?_
   refine qF 1 [(1, .func (.func 88) #[] #[.P bw 0]), (2, .func (.func 89) #[] #[.P bw 0]), (3, .P b1 0), (7, .slice ao (msgsTo W i).length co), (12, .slice a3W W.heads.length k3W), (13, .I ((W.heads.length : Nat) : Int)), (14, .I ((i : Int) + 1))] ?_
   have H := H.reW (msgsTo_no hin9) (by rw [msgsTo_no hin9])
   have H := H.pick [1, 2, 3, 4, 5] rfl
   have H := H.frontM 1 (M' := [(b1, .cells (wrV W a3W k3W a4W k4W a5W k5W a6W k6W).toArray 32 (0, 0)), (b20, .cells (hdrV (W.heads[i])).toArray 53 (0, 0))]) rfl
   have H := H.drop (M' := [(b1, .cells (wrV W a3W k3W a4W k4W a5W k5W a6W k6W).toArray 32 (0, 0))]) (W' := [⟨msgS, 57, .slice ao ((msgsTo W (i + 1)).length) co, msgsTo W (i + 1)⟩]) (by repeat (first | exact List.Sublist.refl _ | apply List.Sublist.cons_cons | apply List.Sublist.cons)) (by repeat (first | exact List.Sublist.refl _ | apply List.Sublist.cons_cons | apply List.Sublist.cons))
   exact WK.back (hback3 (i + 1, ao, co) _ ⟨H, by omega⟩ (by first | omega | (simp only []; omega))) (by first | rfl | (rw [msgsTo_no hin9]; rfl))
 ·
  refine qR 3 [.c [4]] [(6, .slice ao (msgsTo W i).length co)] ?_
  refine qT (.slice ao (msgsTo W i).length co) Try.func63 ?_
  have H : Hp w S [] [(b1, .cells (wrV W a3W k3W a4W k4W a5W k5W a6W k6W).toArray 32 (0, 0))] [] [Rp (Shape.slice msgS) [.slice ao (msgsTo W i).length co] (msgsTo W i), Rp (Shape.slice hdrS) [.slice a3W W.heads.length k3W] W.heads, Rp (Shape.slice SB) [.slice a4W W.chunks.length k4W] W.chunks, Rp Li [.slice a5W W.nodes.length k5W] W.nodes, Rp Li [.slice a6W W.acks.length k6W] W.acks, Fc bw 0 (wrV W a3W k3W a4W k4W a5W k5W a6W k6W)] _ := H.freezeW 0 rfl
  have hi9 : i = W.heads.length := by omega
  subst hi9
  exact ⟨_, rfl, H.done, _, _, rfl, H.out (H.rp 0 rfl)⟩
end Go.Proofs.Ytppcdmbkgficiaa
