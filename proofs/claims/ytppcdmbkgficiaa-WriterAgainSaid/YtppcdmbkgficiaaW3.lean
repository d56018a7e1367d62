import Derived.Test.YtppcdmbkgficiaaW2
namespace Go.Proofs.Ytppcdmbkgficiaa
open Go.BX

theorem prepares_spec {S : Nat → Prop} {w : World} {W : Wr} {cs : List Value} (hW : wrS.rep S w cs W) (hR : W.heads.length = W.chunks.length ∧ W.heads.length = W.nodes.length) (hn : W.heads.length ≤ 1000000) (hcb : ∀ c ∈ W.chunks, c.length ≤ 1000000) :
    Calls Try.prog 57 #[.agg cs.toArray] w (Ret fun v w' => Ext w w' ∧ ∃ (a : Option Addr) (c : Nat), v = .slice a (msgsOf W).length c ∧ (Shape.slice msgS).rep (Nw S w) w' [.slice a (msgsOf W).length c] (msgsOf W)) := by
  obtain ⟨a3W, k3W, a4W, k4W, a5W, k5W, a6W, k6W, rfl, h0W, h1W, h2W, h3W, h4W, h5W, h6W, h7W, h8W, h9W⟩ := wr_open hW
  refine WK.calls1 (fn := Try.f57) (n := 7) (σ := [(0, .agg (wrV W a3W k3W a4W k4W a5W k5W a6W k6W).toArray)]) Try.func57 rfl (by as_aux_lemma => kernel_rfl) (by as_aux_lemma => kernel_rfl) (by as_aux_lemma => kernel_rfl) ?_
  have H := Hp.startF (w := w) (S := S) (G := [Rp (Shape.slice hdrS) [.slice a3W W.heads.length k3W] W.heads, Rp (Shape.slice (Shape.slice (Shape.bv .u8 8))) [.slice a4W W.chunks.length k4W] W.chunks, Rp (Shape.slice (Shape.int .i64)) [.slice a5W W.nodes.length k5W] W.nodes, Rp (Shape.slice (Shape.int .i64)) [.slice a6W W.acks.length k6W] W.acks]) (.rp h3W (.rp h4W (.rp h5W (.rp h6W .nil))))
  refine WK.run 1 [0] [.code (cd Try.prog 57 [0]), .code (cd Try.prog 57 [1])] [(0, .agg (wrV W a3W k3W a4W k4W a5W k5W a6W k6W).toArray)] (by as_aux_lemma => kernel_rfl) ?_
  refine WK.reg1 (l := sq 0 2) (by as_aux_lemma => kernel_rfl) (by as_aux_lemma => kernel_rfl) ?_
  refine RW.new (κ := .seq) (d := some 1) (r := (sq 1 2)) (o := .cells (wrV W a3W k3W a4W k4W a5W k5W a6W k6W).toArray 32 (0, 0)) (v := fun b => .pointer (some ⟨b, 0, none⟩)) (fun b => by as_aux_lemma => kernel_rfl) (nofun) H ?_
  intro b1 w2 H
  refine RW.fin 1 [1] [(1, .pointer (some ⟨b1, 0, none⟩))] (by as_aux_lemma => kernel_rfl) ?_
  refine WK.run 1 [1] [.code (cd Try.prog 57 [1, 0]), .code (cd Try.prog 57 [2])] [(1, .pointer (some ⟨b1, 0, none⟩))] (by as_aux_lemma => kernel_rfl) ?_
  refine WK.reg1 (l := sq 0 5) (by as_aux_lemma => kernel_rfl) (by as_aux_lemma => kernel_rfl) ?_
  refine RW.load (κ := .seq) (d := some 3) (r := (sq 1 5)) (T := 32) (b := b1) (o' := 0) (k := 0) (v := .agg (wrV W a3W k3W a4W k4W a5W k5W a6W k6W).toArray) (by as_aux_lemma => kernel_rfl) (H.cells 0 rfl) rfl (by as_aux_lemma => kernel_rfl) ?_
  refine RW.runP 2 [3, 4, 5] (sq 3 5) [(3, .agg (wrV W a3W k3W a4W k4W a5W k5W a6W k6W).toArray), (4, .func (.func 88) #[] #[.pointer (some ⟨b1, 0, none⟩)]), (5, .func (.func 89) #[] #[.pointer (some ⟨b1, 0, none⟩)])] (by as_aux_lemma => kernel_rfl) (by as_aux_lemma => kernel_rfl) ?_
  have H := H.freezeM
  have H : Hp w S [] [] [] [Fc b1 0 (wrV W a3W k3W a4W k4W a5W k5W a6W k6W), Rp (Shape.slice hdrS) [.slice a3W W.heads.length k3W] W.heads, Rp (Shape.slice (Shape.slice (Shape.bv .u8 8))) [.slice a4W W.chunks.length k4W] W.chunks, Rp (Shape.slice (Shape.int .i64)) [.slice a5W W.nodes.length k5W] W.nodes, Rp (Shape.slice (Shape.int .i64)) [.slice a6W W.acks.length k6W] W.acks] _ := H
  refine RW.call (κ := .seq) (d := some 6) (r := (sq 4 5)) (g := 63) (args := #[.agg (wrV W a3W k3W a4W k4W a5W k5W a6W k6W).toArray, .func (.func 88) #[] #[.pointer (some ⟨b1, 0, none⟩)], .func (.func 89) #[] #[.pointer (some ⟨b1, 0, none⟩)]]) (by as_aux_lemma => kernel_rfl) (nofun) (messages_prep (S := Av S w [] (idsOf [] [])) (W := W) (wr_mkV (Shape.u64_in (by first | omega | (simp <;> omega)) (by first | omega | (simp <;> omega))) (Shape.u64_in (by first | omega | (simp <;> omega)) (by first | omega | (simp <;> omega))) ⟨rfl, h2W⟩ (H.rp 1 rfl) (H.rp 2 rfl) (H.rp 3 rfl) (H.rp 4 rfl) (Shape.i64_in (by first | omega | (simp <;> omega)) (by first | omega | (simp <;> omega))) (Shape.i64_in (by first | omega | (simp <;> omega)) (by first | omega | (simp <;> omega))) (Shape.i64_in (by first | omega | (simp <;> omega)) (by first | omega | (simp <;> omega)))) (H.fact 0 rfl) (by first | assumption | omega) (by omega) (by assumption)) ?_
  rintro _ w3 hE6 ⟨a4, c5, rfl, hr7⟩
  have H := H.addN hE6 (F := Rp (Shape.slice msgS) [.slice a4 ((msgsOf W).length) c5] (msgsOf W)) hr7
  refine RW.fin 1 [2] [(2, .slice a4 ((msgsOf W).length) c5)] (by as_aux_lemma => kernel_rfl) ?_
  refine WK.ret (v := .slice a4 ((msgsOf W).length) c5) Try.func57 (by as_aux_lemma => kernel_rfl) (by as_aux_lemma => kernel_rfl) ?_
  exact ⟨_, rfl, H.done, _, _, rfl, H.out (H.rp 0 rfl)⟩


end Go.Proofs.Ytppcdmbkgficiaa
