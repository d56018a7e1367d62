import Derived.Test.YtppcdmbkgficiaaB0
namespace Go.Proofs.Ytppcdmbkgficiaa
open Go.BX

def rightW (W : Wr) : Bool := decide (W.heads.length = W.chunks.length ∧ W.heads.length = W.nodes.length)

theorem right_spec {S : Nat → Prop} {w : World} {W : Wr} {cs : List Value} (hW : wrS.rep S w cs W) :
 Calls Try.prog 60 #[.agg cs.toArray] w (Ret fun v w' => Ext w w' ∧ v = .bool (rightW W)) := by
 obtain ⟨a3W, k3W, a4W, k4W, a5W, k5W, a6W, k6W, rfl, h0W, h1W, h2W, h3W, h4W, h5W, h6W, h7W, h8W, h9W⟩ := wr_open hW
 refine qS (fn := Try.f60) (n := 19) (σ := [(0, .agg (wrV W a3W k3W a4W k4W a5W k5W a6W k6W).toArray)]) Try.func60 ?_
 have H := Hp.startF (w := w) (S := S) (G := [Rp (Shape.slice hdrS) [.slice a3W W.heads.length k3W] W.heads, Rp (Shape.slice SB) [.slice a4W W.chunks.length k4W] W.chunks, Rp (Shape.slice (Shape.int .i64)) [.slice a5W W.nodes.length k5W] W.nodes, Rp (Shape.slice (Shape.int .i64)) [.slice a6W W.acks.length k6W] W.acks]) (.rp h3W (.rp h4W (.rp h5W (.rp h6W .nil))))
 refine qR 1 [.c [0], .c [1]] [(0, .agg (wrV W a3W k3W a4W k4W a5W k5W a6W k6W).toArray)] ?_
 refine qG (sq 0 2) ?_
 refine qB .seq 1 (sq 1 2) ((wrV W a3W k3W a4W k4W a5W k5W a6W k6W).toArray) 32 H ?_
 intro b1 w2 H
 refine qF 1 [(1, .P b1 0)] ?_
 refine qR 1 [.c [1, 0], .c [2]] [(1, .P b1 0)] ?_
 refine qG (sq 0 17) ?_
 refine qP 1 (sq 1 17) [(1, .P b1 0), (3, .P b1 3)] ?_
 refine qL .seq 4 (sq 2 17) 28 b1 3 3 (.slice a3W W.heads.length k3W) (H.cells 0 rfl) ?_
 refine qP 2 (sq 4 17) [(1, .P b1 0), (5, .I ((W.heads.length : Nat) : Int)), (6, .P b1 4)] ?_
 refine qL .seq 7 (sq 5 17) 29 b1 4 4 (.slice a4W W.chunks.length k4W) (H.cells 0 rfl) ?_
 refine qP 3 (sq 8 17) [(1, .P b1 0), (10, .bool (((W.heads.length : Nat) : Int) == ((W.chunks.length : Nat) : Int)))] ?_
 refine tE (fun b_ => [(1, .P b1 0), (10, .bool b_)]) ((W.heads.length : Nat) : Int) ((W.chunks.length : Nat) : Int) (fun h3 => ?_) (fun h3 => ?_)
 ·
  refine qP 1 (sq 9 17) [(1, .P b1 0), (10, .bool true), (11, .P b1 3)] ?_
  refine qL .seq 12 (sq 10 17) 28 b1 3 3 (.slice a3W W.heads.length k3W) (H.cells 0 rfl) ?_
  refine qP 2 (sq 12 17) [(10, .bool true), (13, .I ((W.heads.length : Nat) : Int)), (14, .P b1 5)] ?_
  refine qL .seq 15 (sq 13 17) 25 b1 5 5 (.slice a5W W.nodes.length k5W) (H.cells 0 rfl) ?_
  refine qF 4 [(2, .bool (((W.heads.length : Nat) : Int) == ((W.nodes.length : Nat) : Int)))] ?_
  refine qT (.bool (((W.heads.length : Nat) : Int) == ((W.nodes.length : Nat) : Int))) Try.func60 ?_
  refine ⟨_, rfl, H.done, ?_⟩
  congr 1
  unfold rightW
  rw [Bool.eq_iff_iff]
  simp
  omega
 ·
  refine qF 9 [(2, .bool false)] ?_
  refine qT (.bool false) Try.func60 ?_
  refine ⟨_, rfl, H.done, ?_⟩
  congr 1
  unfold rightW
  exact (decide_eq_false (by omega)).symm

theorem prep1_spec {S : Nat → Prop} {w : World} {W : Wr} {cs : List Value} (hW : wrS.rep S w cs W) {bw : Nat} (hF : (Fc bw 0 cs).p S w) (i : Int) :
 Calls Try.prog 88 #[.I i, .P bw 0] w (Ret fun v w' => Ext w w' ∧ v = .bool (!decide (i ∈ W.acks))) := by
 obtain ⟨a3W, k3W, a4W, k4W, a5W, k5W, a6W, k6W, rfl, h0W, h1W, h2W, h3W, h4W, h5W, h6W, h7W, h8W, h9W⟩ := wr_open hW
 refine qS (fn := Try.f88) (n := 9) (σ := [(0, .I i), (1, .P bw 0)]) Try.func88 ?_
 have H := Hp.startF (w := w) (S := S) (G := [Fc bw 0 (wrV W a3W k3W a4W k4W a5W k5W a6W k6W), Rp (Shape.slice (Shape.int .i64)) [.slice a6W W.acks.length k6W] W.acks]) (.cons hF (.rp h6W .nil))
 refine qR 3 [.c [1, 0], .c [2]] [(0, .I i), (1, .P bw 0)] ?_
 refine qG (sq 0 6) ?_
 refine qP 1 (sq 1 6) [(0, .I i), (4, .P bw 6)] ?_
 refine qL .seq 5 (sq 2 6) 25 bw 6 6 (.slice a6W W.acks.length k6W) (H.fc 0 rfl) ?_
 refine qP 1 (sq 3 6) [(5, .slice a6W W.acks.length k6W), (6, .I i)] ?_
 refine qK .seq (some 7) (sq 4 6) 61 #[.slice a6W W.acks.length k6W, .I i] (contains_spec i (H.rp 1 rfl)) ?_
 rintro _ w1 hE2 rfl
 have H := H.ext hE2
 refine qF 2 [(3, .bool (!(decide (i ∈ W.acks))))] ?_
 refine qT (.bool (!(decide (i ∈ W.acks)))) Try.func88 ?_
 exact ⟨_, rfl, H.done, rfl⟩

theorem prep2_spec {S : Nat → Prop} {w : World} {W : Wr} {cs : List Value} (hW : wrS.rep S w cs W) {bw : Nat} (hF : (Fc bw 0 cs).p S w) (i : Nat) (hi : i < W.chunks.length) (hby : (W.chunks[i]).length ≤ 140737488355328) :
 Calls Try.prog 89 #[.I i, .P bw 0] w (Ret fun v w' => Ext w w' ∧ ∃ (a : Option Addr) (c : Nat), v = .agg #[.I 9, .I 0, .I 0, .int .u64 0, .int .u64 0, .int .u64 0, .int .u64 0, .int .u64 0, .bool false, .bool false, .slice none 0 0, .slice none 0 0, .slice none 0 0, .int .u64 0, .I 0, .int .u64 0, .I 0, .I 0, .I 0, .int .u32 0, .slice a (W.chunks[i]).length c, .int .u64 0, .int .u64 0, .I 0, .string (⟨#[]⟩), .I 0, .slice none 0 0] ∧ Hp w S [] [] [⟨Sb, 5, .slice a (W.chunks[i]).length c, W.chunks[i]⟩] [] w') := by
 obtain ⟨a3W, k3W, a4W, k4W, a5W, k5W, a6W, k6W, rfl, h0W, h1W, h2W, h3W, h4W, h5W, h6W, h7W, h8W, h9W⟩ := wr_open hW
 refine qS (fn := Try.f89) (n := 11) (σ := [(0, .I i), (1, .P bw 0)]) Try.func89 ?_
 have H := Hp.startF (w := w) (S := S) (G := [Fc bw 0 (wrV W a3W k3W a4W k4W a5W k5W a6W k6W), Rp (Shape.slice SB) [.slice a4W W.chunks.length k4W] W.chunks]) (.cons hF (.rp h4W .nil))
 refine qR 1 [.c [0], .c [1]] [(0, .I i), (1, .P bw 0)] ?_
 refine qG (sq 0 1) ?_
 refine qB .seq 3 (sq 1 1) ((msgZ).toArray) 57 H ?_
 intro b1 w2 H
 refine qF 0 [(0, .I i), (1, .P bw 0), (3, .P b1 0)] ?_
 refine qR 1 [.c [1, 0], .c [2]] [(0, .I i), (1, .P bw 0), (3, .P b1 0)] ?_
 refine qG (sq 0 8) ?_
 refine qP 1 (sq 1 8) [(0, .I i), (3, .P b1 0), (4, .P bw 4)] ?_
 refine qL .seq 5 (sq 2 8) 29 bw 4 4 (.slice a4W W.chunks.length k4W) (H.fc 0 rfl) ?_
 refine qP 1 (sq 3 8) [(3, .P b1 0), (5, .slice a4W W.chunks.length k4W), (6, .I i)] ?_
 have hx3 : i < W.chunks.length := by omega
 refine qX .seq 7 (sq 4 8) 29 23 (i : Int) SB (W.chunks[i]) H 1 rfl i (by omega) (List.getElem?_eq_getElem hx3) ?_
 intro b4 o5 es6 hr7 H
 obtain ⟨a8, k9, rfl⟩ := Shape.slice_form' hr7
 have H := H.add (F := Rp SB [.slice a8 (W.chunks[i]).length k9] (W.chunks[i])) hr7
 refine qL .seq 8 (sq 5 8) 23 b4 o5 0 (.slice a8 (W.chunks[i]).length k9) (H.fc 1 rfl) ?_
 refine qK .seq (some 9) (sq 6 8) 83 #[.slice a8 (W.chunks[i]).length k9] (bclone_spec (H.rp 0 rfl) (by omega)) ?_
 rintro v11 w10 - H'
 have H := H.back (M1 := []) (W1 := []) H'
 obtain ⟨a12, c13, rfl, hc14, hm15⟩ := H.ownForm 0 rfl
 have H : Hp w S [] [(b1, .cells (msgZ).toArray 57 (0, 0))] [⟨Sb, 5, .slice a12 (W.chunks[i]).length c13, W.chunks[i]⟩] [Rp SB [.slice a8 (W.chunks[i]).length k9] (W.chunks[i]), Fc b4 o5 [.slice a8 (W.chunks[i]).length k9], Fc bw 0 (wrV W a3W k3W a4W k4W a5W k5W a6W k6W), Rp (Shape.slice SB) [.slice a4W W.chunks.length k4W] W.chunks] _ := H
 refine qP 1 (sq 7 8) [(3, .P b1 0), (10, .agg (((msgZ).set 0 (.I 9)).set 20 (.slice a12 (W.chunks[i]).length c13)).toArray)] ?_
 refine RW.store (d := none) (r := (sq 8 8)) (T := 57) (b := b1) (k := 0) (v := .agg (((msgZ).set 0 (.I 9)).set 20 (.slice a12 (W.chunks[i]).length c13)).toArray) (c' := (((msgZ).set 0 (.I 9)).set 20 (.slice a12 (W.chunks[i]).length c13)).toArray) (M' := [(b1, .cells (((msgZ).set 0 (.I 9)).set 20 (.slice a12 (W.chunks[i]).length c13)).toArray 57 (0, 0))]) (by as_aux_lemma => kernel_rfl) H 0 rfl (by as_aux_lemma => kernel_rfl) (by as_aux_lemma => kernel_rfl) ?_
 intro w16 H
 refine qF 0 [(3, .P b1 0)] ?_
 refine WK.retBy (v := .agg (((msgZ).set 0 (.I 9)).set 20 (.slice a12 (W.chunks[i]).length c13)).toArray) Try.func89 (by as_aux_lemma => kernel_rfl) (RV.res1 (x := .cell 3 57) (by as_aux_lemma => kernel_rfl) (RV.cell (k := 0) (by as_aux_lemma => kernel_rfl) (H.cells 0 rfl) rfl (by as_aux_lemma => kernel_rfl))) ?_
 have H := H.drop (M' := []) (W' := [⟨Sb, 5, .slice a12 (W.chunks[i]).length c13, W.chunks[i]⟩]) (List.nil_sublist _) (List.Sublist.refl _)
 exact ⟨_, rfl, H.done, _, _, rfl, H.pick [] rfl⟩


end Go.Proofs.Ytppcdmbkgficiaa
