import Derived.Test.YtppcdmbkgficiaaW4
namespace Go.Proofs.Ytppcdmbkgficiaa
open Go.BX

/-- what waiting makes of a write -/
def tickOf (W : Wr) : Wr × List Msg × Int :=
  if rightW W = false ∨ W.done ≠ 0 ∨ W.waited = 9223372036854775807 then (W, [], W.done) else
  if W.waited + 1 > W.limit then ({ W with waited := W.waited + 1, done := 2 }, [], 2) else
  if (W.waited + 1) % 4 = 0 then ({ W with waited := W.waited + 1 }, msgsOf { W with waited := W.waited + 1 }, W.done) else ({ W with waited := W.waited + 1 }, [], W.done)
theorem gotOf_keep {W D : Wr} {e kind frm : Int} {hd : Hdr} {ok : Bool} (h : (D, e) = gotOf W kind frm hd ok) : D.heads = W.heads ∧ D.nodes = W.nodes ∧ D.chunks = W.chunks := by
  unfold gotOf at h
  split at h
  · obtain ⟨rfl, -⟩ := Prod.mk.inj h; exact ⟨rfl, rfl, rfl⟩
  · split at h
    · obtain ⟨rfl, -⟩ := Prod.mk.inj h; exact ⟨rfl, rfl, rfl⟩
    · split at h
      · obtain ⟨rfl, -⟩ := Prod.mk.inj h; exact ⟨rfl, rfl, rfl⟩
      · split at h <;> (obtain ⟨rfl, -⟩ := Prod.mk.inj h; exact ⟨rfl, rfl, rfl⟩)
def settleF (W : Wr) : List Msg := if rightW W = true ∧ W.done = 1 then settlesTo W W.heads.length else []

set_option maxHeartbeats 4000000 in
theorem tick_spec {S : Nat → Prop} {w : World} {W : Wr} {cs : List Value} (hW : wrS.rep S w cs W) (hwt : 0 ≤ W.waited) (hn : W.heads.length ≤ 1000000) (hcb : ∀ c ∈ W.chunks, c.length ≤ 1000000) :
    Calls Try.prog 25 #[.agg cs.toArray] w (Ret fun v w' => Ext w w' ∧ ∃ (ds : List Value) (a : Option Addr) (c : Nat) (D : Wr) (L : List Msg) (e : Int), v = .tuple #[.agg ds.toArray, .slice a L.length c, .int .i64 e] ∧ wrS.rep (Nw S w) w' ds D ∧ (Shape.slice msgS).rep (Nw S w) w' [.slice a L.length c] L ∧ (D, L, e) = tickOf W) := by
  obtain ⟨a3W, k3W, a4W, k4W, a5W, k5W, a6W, k6W, rfl, h0W, h1W, h2W, h3W, h4W, h5W, h6W, h7W, h8W, h9W⟩ := wr_open hW
  refine WK.calls1 (fn := Try.f25) (n := 45) (σ := [(0, .agg (wrV W a3W k3W a4W k4W a5W k5W a6W k6W).toArray)]) Try.func25 rfl (by as_aux_lemma => kernel_rfl) (by as_aux_lemma => kernel_rfl) (by as_aux_lemma => kernel_rfl) ?_
  have H := Hp.startF (w := w) (S := S) (G := [Rp (Shape.slice hdrS) [.slice a3W W.heads.length k3W] W.heads, Rp (Shape.slice (Shape.slice (Shape.bv .u8 8))) [.slice a4W W.chunks.length k4W] W.chunks, Rp (Shape.slice (Shape.int .i64)) [.slice a5W W.nodes.length k5W] W.nodes, Rp (Shape.slice (Shape.int .i64)) [.slice a6W W.acks.length k6W] W.acks]) (.rp h3W (.rp h4W (.rp h5W (.rp h6W .nil))))
  refine WK.run 1 [0] [.code (cd Try.prog 25 [0]), .code (cd Try.prog 25 [1])] [(0, .agg (wrV W a3W k3W a4W k4W a5W k5W a6W k6W).toArray)] (by as_aux_lemma => kernel_rfl) ?_
  refine WK.reg1 (l := sq 0 4) (by as_aux_lemma => kernel_rfl) (by as_aux_lemma => kernel_rfl) ?_
  refine RW.new (κ := .seq) (d := some 1) (r := (sq 1 4)) (o := .cells (wrV W a3W k3W a4W k4W a5W k5W a6W k6W).toArray 32 (0, 0)) (v := fun b => .pointer (some ⟨b, 0, none⟩)) (fun b => by as_aux_lemma => kernel_rfl) (nofun) H ?_
  intro b1 w2 H
  refine RW.new (κ := .seq) (d := some 2) (r := (sq 2 4)) (o := .cells (wrZ).toArray 32 (0, 0)) (v := fun b => .pointer (some ⟨b, 0, none⟩)) (fun b => by as_aux_lemma => kernel_rfl) (nofun) H ?_
  intro b3 w4 H
  refine RW.fin 2 [1, 2] [(1, .pointer (some ⟨b1, 0, none⟩)), (2, .pointer (some ⟨b3, 0, none⟩))] (by as_aux_lemma => kernel_rfl) ?_
  refine WK.run 2 [1, 2] [.code (cd Try.prog 25 [1, 0, 0]), .code (cd Try.prog 25 [1, 0, 1]), .code (cd Try.prog 25 [2])] [(1, .pointer (some ⟨b1, 0, none⟩)), (2, .pointer (some ⟨b3, 0, none⟩))] (by as_aux_lemma => kernel_rfl) ?_
  refine WK.reg1 (l := sq 0 13) (by as_aux_lemma => kernel_rfl) (by as_aux_lemma => kernel_rfl) ?_
  refine RW.load (κ := .seq) (d := some 5) (r := (sq 1 13)) (T := 32) (b := b1) (o' := 0) (k := 0) (v := .agg (wrV W a3W k3W a4W k4W a5W k5W a6W k6W).toArray) (by as_aux_lemma => kernel_rfl) (H.cells 1 rfl) rfl (by as_aux_lemma => kernel_rfl) ?_
  refine RW.call (κ := .seq) (d := some 6) (r := (sq 2 13)) (g := 60) (args := #[.agg (wrV W a3W k3W a4W k4W a5W k5W a6W k6W).toArray]) (by as_aux_lemma => kernel_rfl) (nofun) (right_spec (W := W) (wr_mkV (Shape.u64_in (by first | omega | (simp <;> omega)) (by first | omega | (simp <;> omega))) (Shape.u64_in (by first | omega | (simp <;> omega)) (by first | omega | (simp <;> omega))) ⟨rfl, h2W⟩ (H.rp 0 rfl) (H.rp 1 rfl) (H.rp 2 rfl) (H.rp 3 rfl) (Shape.i64_in (by first | omega | (simp <;> omega)) (by first | omega | (simp <;> omega))) (Shape.i64_in (by first | omega | (simp <;> omega)) (by first | omega | (simp <;> omega))) (Shape.i64_in (by first | omega | (simp <;> omega)) (by first | omega | (simp <;> omega))))) ?_
  rintro _ w5 hE6 rfl
  have H := H.ext hE6
  refine RW.runP 2 [1, 2, 8] (sq 4 13) [(1, .pointer (some ⟨b1, 0, none⟩)), (2, .pointer (some ⟨b3, 0, none⟩)), (8, .bool (!(rightW W)))] (by as_aux_lemma => kernel_rfl) (by as_aux_lemma => kernel_rfl) ?_
  refine RW.test (fun b_ => [(1, .pointer (some ⟨b1, 0, none⟩)), (2, .pointer (some ⟨b3, 0, none⟩)), (8, .bool b_)]) (!(rightW W)) (fun h7 => ?_) (fun h7 => ?_)
  · skip
    replace h7 : (rightW W) = false := by revert h7; cases (rightW W) <;> simp
    have hrw8 : rightW W = false := by first | assumption | (simpa using h7)
    refine RW.fin 9 [1, 2, 17] [(1, .pointer (some ⟨b1, 0, none⟩)), (2, .pointer (some ⟨b3, 0, none⟩)), (17, .bool true)] (by as_aux_lemma => kernel_rfl) ?_
    refine WK.run 2 [1, 2] [.code (cd Try.prog 25 [1, 0, 1, 0, 0]), .code (cd Try.prog 25 [1, 0, 1, 0, 1]), .code (cd Try.prog 25 [2])] [(1, .pointer (some ⟨b1, 0, none⟩)), (2, .pointer (some ⟨b3, 0, none⟩))] (by as_aux_lemma => kernel_rfl) ?_
    refine WK.drawH1 [b3] (.leaf [(0, .qui), (1, .qui), (2, .qui), (3, .seq), (4, .qui), (5, .qui)]) Try_mixed (by as_aux_lemma => kernel_rfl) (by as_aux_lemma => kernel_rfl) ?_
    intro w8 hw9
    have H := H.draw
    rw [← hw9] at H
    clear hw9
    have hS := Chg.refl w8 [b3]
    refine RG.leaf' [(0, .qui), (1, .qui), (2, .qui), (3, .seq), (4, .qui), (5, .qui)] (by as_aux_lemma => kernel_rfl) ?_
    refine RH.load (d := some 18) (r := [(1, .qui), (2, .qui), (3, .seq), (4, .qui), (5, .qui)]) (T := 32) (b := b1) (o' := 0) (k := 0) (v := .agg (wrV W a3W k3W a4W k4W a5W k5W a6W k6W).toArray) (by as_aux_lemma => kernel_rfl) hS (H.cells 1 rfl) (by intro hq; simp only [List.mem_cons, List.not_mem_nil, or_false] at hq; exact H.raws 1 0 rfl rfl (by decide) hq) (by simp) rfl (by as_aux_lemma => kernel_rfl) ?_
    refine RH.runP hS 1 [2, 18, 19] [(2, .qui), (3, .seq), (4, .qui), (5, .qui)] [(2, .pointer (some ⟨b3, 0, none⟩)), (18, .agg (wrV W a3W k3W a4W k4W a5W k5W a6W k6W).toArray), (19, .pointer (some ⟨b1, 9, none⟩))] (by as_aux_lemma => kernel_rfl) (by as_aux_lemma => kernel_rfl) ?_
    refine RH.load (d := some 20) (r := [(3, .seq), (4, .qui), (5, .qui)]) (T := 30) (b := b1) (o' := 9) (k := 9) (v := .int .i64 W.done) (by as_aux_lemma => kernel_rfl) hS (H.cells 1 rfl) (by intro hq; simp only [List.mem_cons, List.not_mem_nil, or_false] at hq; exact H.raws 1 0 rfl rfl (by decide) hq) (by simp) rfl (by as_aux_lemma => kernel_rfl) ?_
    have Hr := H
    refine RH.sto ?_
    refine RW.storeC (d := none) (r := []) (T := 32) (b := b3) (k := 0) (v := .agg (wrV W a3W k3W a4W k4W a5W k5W a6W k6W).toArray) (c' := (wrV W a3W k3W a4W k4W a5W k5W a6W k6W).toArray) (M' := [(b3, .cells (wrV W a3W k3W a4W k4W a5W k5W a6W k6W).toArray 32 (0, 0)), (b1, .cells (wrV W a3W k3W a4W k4W a5W k5W a6W k6W).toArray 32 (0, 0))]) (by as_aux_lemma => kernel_rfl) H 0 rfl (by as_aux_lemma => kernel_rfl) (by as_aux_lemma => kernel_rfl) ?_
    intro w11 hch10 H
    have hS12 := hS.sto hch10 (.inr (by simp))
    refine ⟨hS12, ?_⟩
    have hS := hS12
    refine RH.fin hS 2 [2, 3, 4] [(2, .pointer (some ⟨b3, 0, none⟩)), (3, .slice none 0 0), (4, .int .i64 W.done)] (by as_aux_lemma => kernel_rfl) ?_
    refine WK.retBy (v := .tuple #[.agg (wrV W a3W k3W a4W k4W a5W k5W a6W k6W).toArray, .slice none 0 0, .int .i64 W.done]) Try.func25 (by as_aux_lemma => kernel_rfl) (RV.res3 (x := .cell 2 32) (y := .tmp 3) (z := .tmp 4) (by as_aux_lemma => kernel_rfl) (RV.cell (k := 0) (by as_aux_lemma => kernel_rfl) (H.cells 0 rfl) rfl (by as_aux_lemma => kernel_rfl)) (RV.tmp (by as_aux_lemma => kernel_rfl)) (RV.tmp (by as_aux_lemma => kernel_rfl))) ?_
    have hpost : (W, ([] : List Msg), (W.done : Int)) = tickOf W := by
      clear H
      symm
      unfold tickOf
      rw [if_pos (by first | (left; simpa using hrw8) | (left; assumption) | (right; left; assumption) | (right; right; assumption))]
    exact ⟨_, rfl, H.done, [.int .u64 W.client, .int .u64 W.seq, .string W.key, .slice a3W W.heads.length k3W, .slice a4W W.chunks.length k4W, .slice a5W W.nodes.length k5W, .slice a6W W.acks.length k6W, .int .i64 W.waited, .int .i64 W.limit, .int .i64 W.done], none, 0, W, [], W.done, rfl, H.out (wr_mkV (Shape.u64_in (by first | omega | (simp <;> omega)) (by first | omega | (simp <;> omega))) (Shape.u64_in (by first | omega | (simp <;> omega)) (by first | omega | (simp <;> omega))) ⟨rfl, h2W⟩ (H.rp 0 rfl) (H.rp 1 rfl) (H.rp 2 rfl) (H.rp 3 rfl) (Shape.i64_in (by first | omega | (simp <;> omega)) (by first | omega | (simp <;> omega))) (Shape.i64_in (by first | omega | (simp <;> omega)) (by first | omega | (simp <;> omega))) (Shape.i64_in (by first | omega | (simp <;> omega)) (by first | omega | (simp <;> omega)))), Shape.slice_nil, hpost⟩
  · skip
    replace h7 : (rightW W) = true := by revert h7; cases (rightW W) <;> simp
    have hrw9 : rightW W = true := by first | assumption | (simpa using h7)
    refine RW.runP 1 [1, 2, 8, 9] (sq 5 13) [(1, .pointer (some ⟨b1, 0, none⟩)), (2, .pointer (some ⟨b3, 0, none⟩)), (8, .bool false), (9, .pointer (some ⟨b1, 9, none⟩))] (by as_aux_lemma => kernel_rfl) (by as_aux_lemma => kernel_rfl) ?_
    refine RW.load (κ := .seq) (d := some 10) (r := (sq 6 13)) (T := 30) (b := b1) (o' := 9) (k := 9) (v := .int .i64 W.done) (by as_aux_lemma => kernel_rfl) (H.cells 1 rfl) rfl (by as_aux_lemma => kernel_rfl) ?_
    refine RW.runP 3 [1, 2, 13] (sq 9 13) [(1, .pointer (some ⟨b1, 0, none⟩)), (2, .pointer (some ⟨b3, 0, none⟩)), (13, .bool (W.done != 0))] (by as_aux_lemma => kernel_rfl) (by as_aux_lemma => kernel_rfl) ?_
    refine RW.test (fun b_ => [(1, .pointer (some ⟨b1, 0, none⟩)), (2, .pointer (some ⟨b3, 0, none⟩)), (13, .bool b_)]) (W.done != 0) (fun h13 => ?_) (fun h13 => ?_)
    · skip
      replace h13 := bne_iff_ne.1 h13
      refine RW.fin 4 [1, 2, 17] [(1, .pointer (some ⟨b1, 0, none⟩)), (2, .pointer (some ⟨b3, 0, none⟩)), (17, .bool true)] (by as_aux_lemma => kernel_rfl) ?_
      refine WK.run 2 [1, 2] [.code (cd Try.prog 25 [1, 0, 1, 0, 0]), .code (cd Try.prog 25 [1, 0, 1, 0, 1]), .code (cd Try.prog 25 [2])] [(1, .pointer (some ⟨b1, 0, none⟩)), (2, .pointer (some ⟨b3, 0, none⟩))] (by as_aux_lemma => kernel_rfl) ?_
      refine WK.drawH1 [b3] (.leaf [(0, .qui), (1, .qui), (2, .qui), (3, .seq), (4, .qui), (5, .qui)]) Try_mixed (by as_aux_lemma => kernel_rfl) (by as_aux_lemma => kernel_rfl) ?_
      intro w14 hw15
      have H := H.draw
      rw [← hw15] at H
      clear hw15
      have hS := Chg.refl w14 [b3]
      refine RG.leaf' [(0, .qui), (1, .qui), (2, .qui), (3, .seq), (4, .qui), (5, .qui)] (by as_aux_lemma => kernel_rfl) ?_
      refine RH.load (d := some 18) (r := [(1, .qui), (2, .qui), (3, .seq), (4, .qui), (5, .qui)]) (T := 32) (b := b1) (o' := 0) (k := 0) (v := .agg (wrV W a3W k3W a4W k4W a5W k5W a6W k6W).toArray) (by as_aux_lemma => kernel_rfl) hS (H.cells 1 rfl) (by intro hq; simp only [List.mem_cons, List.not_mem_nil, or_false] at hq; exact H.raws 1 0 rfl rfl (by decide) hq) (by simp) rfl (by as_aux_lemma => kernel_rfl) ?_
      refine RH.runP hS 1 [2, 18, 19] [(2, .qui), (3, .seq), (4, .qui), (5, .qui)] [(2, .pointer (some ⟨b3, 0, none⟩)), (18, .agg (wrV W a3W k3W a4W k4W a5W k5W a6W k6W).toArray), (19, .pointer (some ⟨b1, 9, none⟩))] (by as_aux_lemma => kernel_rfl) (by as_aux_lemma => kernel_rfl) ?_
      refine RH.load (d := some 20) (r := [(3, .seq), (4, .qui), (5, .qui)]) (T := 30) (b := b1) (o' := 9) (k := 9) (v := .int .i64 W.done) (by as_aux_lemma => kernel_rfl) hS (H.cells 1 rfl) (by intro hq; simp only [List.mem_cons, List.not_mem_nil, or_false] at hq; exact H.raws 1 0 rfl rfl (by decide) hq) (by simp) rfl (by as_aux_lemma => kernel_rfl) ?_
      have Hr := H
      refine RH.sto ?_
      refine RW.storeC (d := none) (r := []) (T := 32) (b := b3) (k := 0) (v := .agg (wrV W a3W k3W a4W k4W a5W k5W a6W k6W).toArray) (c' := (wrV W a3W k3W a4W k4W a5W k5W a6W k6W).toArray) (M' := [(b3, .cells (wrV W a3W k3W a4W k4W a5W k5W a6W k6W).toArray 32 (0, 0)), (b1, .cells (wrV W a3W k3W a4W k4W a5W k5W a6W k6W).toArray 32 (0, 0))]) (by as_aux_lemma => kernel_rfl) H 0 rfl (by as_aux_lemma => kernel_rfl) (by as_aux_lemma => kernel_rfl) ?_
      intro w17 hch16 H
      have hS18 := hS.sto hch16 (.inr (by simp))
      refine ⟨hS18, ?_⟩
      have hS := hS18
      refine RH.fin hS 2 [2, 3, 4] [(2, .pointer (some ⟨b3, 0, none⟩)), (3, .slice none 0 0), (4, .int .i64 W.done)] (by as_aux_lemma => kernel_rfl) ?_
      refine WK.retBy (v := .tuple #[.agg (wrV W a3W k3W a4W k4W a5W k5W a6W k6W).toArray, .slice none 0 0, .int .i64 W.done]) Try.func25 (by as_aux_lemma => kernel_rfl) (RV.res3 (x := .cell 2 32) (y := .tmp 3) (z := .tmp 4) (by as_aux_lemma => kernel_rfl) (RV.cell (k := 0) (by as_aux_lemma => kernel_rfl) (H.cells 0 rfl) rfl (by as_aux_lemma => kernel_rfl)) (RV.tmp (by as_aux_lemma => kernel_rfl)) (RV.tmp (by as_aux_lemma => kernel_rfl))) ?_
      have hpost : (W, ([] : List Msg), (W.done : Int)) = tickOf W := by
        clear H
        symm
        unfold tickOf
        rw [if_pos (by first | (left; simpa using hrw8) | (left; assumption) | (right; left; assumption) | (right; right; assumption))]
      exact ⟨_, rfl, H.done, [.int .u64 W.client, .int .u64 W.seq, .string W.key, .slice a3W W.heads.length k3W, .slice a4W W.chunks.length k4W, .slice a5W W.nodes.length k5W, .slice a6W W.acks.length k6W, .int .i64 W.waited, .int .i64 W.limit, .int .i64 W.done], none, 0, W, [], W.done, rfl, H.out (wr_mkV (Shape.u64_in (by first | omega | (simp <;> omega)) (by first | omega | (simp <;> omega))) (Shape.u64_in (by first | omega | (simp <;> omega)) (by first | omega | (simp <;> omega))) ⟨rfl, h2W⟩ (H.rp 0 rfl) (H.rp 1 rfl) (H.rp 2 rfl) (H.rp 3 rfl) (Shape.i64_in (by first | omega | (simp <;> omega)) (by first | omega | (simp <;> omega))) (Shape.i64_in (by first | omega | (simp <;> omega)) (by first | omega | (simp <;> omega))) (Shape.i64_in (by first | omega | (simp <;> omega)) (by first | omega | (simp <;> omega)))), Shape.slice_nil, hpost⟩
    · skip
      replace h13 := (bne_eq_false_iff_eq.1 h13)
      refine RW.runP 1 [1, 2, 13, 14] (sq 10 13) [(1, .pointer (some ⟨b1, 0, none⟩)), (2, .pointer (some ⟨b3, 0, none⟩)), (13, .bool false), (14, .pointer (some ⟨b1, 7, none⟩))] (by as_aux_lemma => kernel_rfl) (by as_aux_lemma => kernel_rfl) ?_
      refine RW.load (κ := .seq) (d := some 15) (r := (sq 11 13)) (T := 3) (b := b1) (o' := 7) (k := 7) (v := .int .i64 W.waited) (by as_aux_lemma => kernel_rfl) (H.cells 1 rfl) rfl (by as_aux_lemma => kernel_rfl) ?_
      refine RW.fin 2 [1, 2, 17] [(1, .pointer (some ⟨b1, 0, none⟩)), (2, .pointer (some ⟨b3, 0, none⟩)), (17, .bool (W.waited == 9223372036854775807))] (by as_aux_lemma => kernel_rfl) ?_
      refine WK.cond1 (W.waited == 9223372036854775807) (by as_aux_lemma => kernel_rfl) (by as_aux_lemma => kernel_rfl) (fun h19 => ?_) (fun h19 => ?_)
      · skip
        replace h19 := eq_of_beq h19
        refine WK.run 1 [1, 2] [.code (cd Try.prog 25 [1, 0, 1, 0, 0]), .code (cd Try.prog 25 [1, 0, 1, 0, 1]), .code (cd Try.prog 25 [2])] [(1, .pointer (some ⟨b1, 0, none⟩)), (2, .pointer (some ⟨b3, 0, none⟩))] (by as_aux_lemma => kernel_rfl) ?_
        refine WK.drawH1 [b3] (.leaf [(0, .qui), (1, .qui), (2, .qui), (3, .seq), (4, .qui), (5, .qui)]) Try_mixed (by as_aux_lemma => kernel_rfl) (by as_aux_lemma => kernel_rfl) ?_
        intro w20 hw21
        have H := H.draw
        rw [← hw21] at H
        clear hw21
        have hS := Chg.refl w20 [b3]
        refine RG.leaf' [(0, .qui), (1, .qui), (2, .qui), (3, .seq), (4, .qui), (5, .qui)] (by as_aux_lemma => kernel_rfl) ?_
        refine RH.load (d := some 18) (r := [(1, .qui), (2, .qui), (3, .seq), (4, .qui), (5, .qui)]) (T := 32) (b := b1) (o' := 0) (k := 0) (v := .agg (wrV W a3W k3W a4W k4W a5W k5W a6W k6W).toArray) (by as_aux_lemma => kernel_rfl) hS (H.cells 1 rfl) (by intro hq; simp only [List.mem_cons, List.not_mem_nil, or_false] at hq; exact H.raws 1 0 rfl rfl (by decide) hq) (by simp) rfl (by as_aux_lemma => kernel_rfl) ?_
        refine RH.runP hS 1 [2, 18, 19] [(2, .qui), (3, .seq), (4, .qui), (5, .qui)] [(2, .pointer (some ⟨b3, 0, none⟩)), (18, .agg (wrV W a3W k3W a4W k4W a5W k5W a6W k6W).toArray), (19, .pointer (some ⟨b1, 9, none⟩))] (by as_aux_lemma => kernel_rfl) (by as_aux_lemma => kernel_rfl) ?_
        refine RH.load (d := some 20) (r := [(3, .seq), (4, .qui), (5, .qui)]) (T := 30) (b := b1) (o' := 9) (k := 9) (v := .int .i64 W.done) (by as_aux_lemma => kernel_rfl) hS (H.cells 1 rfl) (by intro hq; simp only [List.mem_cons, List.not_mem_nil, or_false] at hq; exact H.raws 1 0 rfl rfl (by decide) hq) (by simp) rfl (by as_aux_lemma => kernel_rfl) ?_
        have Hr := H
        refine RH.sto ?_
        refine RW.storeC (d := none) (r := []) (T := 32) (b := b3) (k := 0) (v := .agg (wrV W a3W k3W a4W k4W a5W k5W a6W k6W).toArray) (c' := (wrV W a3W k3W a4W k4W a5W k5W a6W k6W).toArray) (M' := [(b3, .cells (wrV W a3W k3W a4W k4W a5W k5W a6W k6W).toArray 32 (0, 0)), (b1, .cells (wrV W a3W k3W a4W k4W a5W k5W a6W k6W).toArray 32 (0, 0))]) (by as_aux_lemma => kernel_rfl) H 0 rfl (by as_aux_lemma => kernel_rfl) (by as_aux_lemma => kernel_rfl) ?_
        intro w23 hch22 H
        have hS24 := hS.sto hch22 (.inr (by simp))
        refine ⟨hS24, ?_⟩
        have hS := hS24
        refine RH.fin hS 2 [2, 3, 4] [(2, .pointer (some ⟨b3, 0, none⟩)), (3, .slice none 0 0), (4, .int .i64 W.done)] (by as_aux_lemma => kernel_rfl) ?_
        refine WK.retBy (v := .tuple #[.agg (wrV W a3W k3W a4W k4W a5W k5W a6W k6W).toArray, .slice none 0 0, .int .i64 W.done]) Try.func25 (by as_aux_lemma => kernel_rfl) (RV.res3 (x := .cell 2 32) (y := .tmp 3) (z := .tmp 4) (by as_aux_lemma => kernel_rfl) (RV.cell (k := 0) (by as_aux_lemma => kernel_rfl) (H.cells 0 rfl) rfl (by as_aux_lemma => kernel_rfl)) (RV.tmp (by as_aux_lemma => kernel_rfl)) (RV.tmp (by as_aux_lemma => kernel_rfl))) ?_
        have hpost : (W, ([] : List Msg), (W.done : Int)) = tickOf W := by
          clear H
          symm
          unfold tickOf
          rw [if_pos (by first | (left; simpa using hrw8) | (left; assumption) | (right; left; assumption) | (right; right; assumption))]
        exact ⟨_, rfl, H.done, [.int .u64 W.client, .int .u64 W.seq, .string W.key, .slice a3W W.heads.length k3W, .slice a4W W.chunks.length k4W, .slice a5W W.nodes.length k5W, .slice a6W W.acks.length k6W, .int .i64 W.waited, .int .i64 W.limit, .int .i64 W.done], none, 0, W, [], W.done, rfl, H.out (wr_mkV (Shape.u64_in (by first | omega | (simp <;> omega)) (by first | omega | (simp <;> omega))) (Shape.u64_in (by first | omega | (simp <;> omega)) (by first | omega | (simp <;> omega))) ⟨rfl, h2W⟩ (H.rp 0 rfl) (H.rp 1 rfl) (H.rp 2 rfl) (H.rp 3 rfl) (Shape.i64_in (by first | omega | (simp <;> omega)) (by first | omega | (simp <;> omega))) (Shape.i64_in (by first | omega | (simp <;> omega)) (by first | omega | (simp <;> omega))) (Shape.i64_in (by first | omega | (simp <;> omega)) (by first | omega | (simp <;> omega)))), Shape.slice_nil, hpost⟩
      · skip
        replace h19 := ne_of_beq_false h19
        have hrr9 := of_decide_eq_true (p := W.heads.length = W.chunks.length ∧ W.heads.length = W.nodes.length) hrw9
        refine WK.run 2 [1, 2] [.code (cd Try.prog 25 [2, 0]), .code (cd Try.prog 25 [3])] [(1, .pointer (some ⟨b1, 0, none⟩)), (2, .pointer (some ⟨b3, 0, none⟩))] (by as_aux_lemma => kernel_rfl) ?_
        refine WK.reg1 (l := sq 0 5) (by as_aux_lemma => kernel_rfl) (by as_aux_lemma => kernel_rfl) ?_
        refine RW.runP 1 [1, 2, 21] (sq 1 5) [(1, .pointer (some ⟨b1, 0, none⟩)), (2, .pointer (some ⟨b3, 0, none⟩)), (21, .pointer (some ⟨b1, 7, none⟩))] (by as_aux_lemma => kernel_rfl) (by as_aux_lemma => kernel_rfl) ?_
        refine RW.load (κ := .seq) (d := some 22) (r := (sq 2 5)) (T := 3) (b := b1) (o' := 7) (k := 7) (v := .int .i64 W.waited) (by as_aux_lemma => kernel_rfl) (H.cells 1 rfl) rfl (by as_aux_lemma => kernel_rfl) ?_
        refine RW.wr64 (κ := .seq) (d := some 23) (r := (sq 3 5)) (t := W.waited + 1) (by as_aux_lemma => kernel_rfl) (by omega) ?_
        refine RW.runP 1 [1, 2, 23, 24] (sq 4 5) [(1, .pointer (some ⟨b1, 0, none⟩)), (2, .pointer (some ⟨b3, 0, none⟩)), (23, .int .i64 (W.waited + 1)), (24, .pointer (some ⟨b1, 7, none⟩))] (by as_aux_lemma => kernel_rfl) (by as_aux_lemma => kernel_rfl) ?_
        refine RW.store (d := none) (r := (sq 5 5)) (T := 3) (b := b1) (k := 7) (v := .int .i64 (W.waited + 1)) (c' := ((wrV W a3W k3W a4W k4W a5W k5W a6W k6W).set 7 (.int .i64 (W.waited + 1))).toArray) (M' := [(b3, .cells (wrZ).toArray 32 (0, 0)), (b1, .cells ((wrV W a3W k3W a4W k4W a5W k5W a6W k6W).set 7 (.int .i64 (W.waited + 1))).toArray 32 (0, 0))]) (by as_aux_lemma => kernel_rfl) H 1 rfl (by as_aux_lemma => kernel_rfl) (by as_aux_lemma => kernel_rfl) ?_
        intro w25 H
        refine RW.fin 0 [1, 2] [(1, .pointer (some ⟨b1, 0, none⟩)), (2, .pointer (some ⟨b3, 0, none⟩))] (by as_aux_lemma => kernel_rfl) ?_
        refine WK.run 3 [1, 2] [.code (cd Try.prog 25 [3, 0, 0, 0]), .code (cd Try.prog 25 [3, 0, 0, 1]), .inBlock 0, .code (cd Try.prog 25 [4])] [(1, .pointer (some ⟨b1, 0, none⟩)), (2, .pointer (some ⟨b3, 0, none⟩))] (by as_aux_lemma => kernel_rfl) ?_
        refine WK.reg1 (l := sq 0 6) (by as_aux_lemma => kernel_rfl) (by as_aux_lemma => kernel_rfl) ?_
        refine RW.runP 1 [1, 2, 26] (sq 1 6) [(1, .pointer (some ⟨b1, 0, none⟩)), (2, .pointer (some ⟨b3, 0, none⟩)), (26, .pointer (some ⟨b1, 7, none⟩))] (by as_aux_lemma => kernel_rfl) (by as_aux_lemma => kernel_rfl) ?_
        refine RW.load (κ := .seq) (d := some 27) (r := (sq 2 6)) (T := 3) (b := b1) (o' := 7) (k := 7) (v := .int .i64 (W.waited + 1)) (by as_aux_lemma => kernel_rfl) (H.cells 1 rfl) rfl (by as_aux_lemma => kernel_rfl) ?_
        refine RW.runP 1 [1, 2, 27, 28] (sq 3 6) [(1, .pointer (some ⟨b1, 0, none⟩)), (2, .pointer (some ⟨b3, 0, none⟩)), (27, .int .i64 (W.waited + 1)), (28, .pointer (some ⟨b1, 8, none⟩))] (by as_aux_lemma => kernel_rfl) (by as_aux_lemma => kernel_rfl) ?_
        refine RW.load (κ := .seq) (d := some 29) (r := (sq 4 6)) (T := 3) (b := b1) (o' := 8) (k := 8) (v := .int .i64 W.limit) (by as_aux_lemma => kernel_rfl) (H.cells 1 rfl) rfl (by as_aux_lemma => kernel_rfl) ?_
        refine RW.fin 2 [1, 2, 25] [(1, .pointer (some ⟨b1, 0, none⟩)), (2, .pointer (some ⟨b3, 0, none⟩)), (25, .bool (decide ((W.waited + 1 : Int) > W.limit)))] (by as_aux_lemma => kernel_rfl) ?_
        refine WK.cond1 (decide ((W.waited + 1 : Int) > W.limit)) (by as_aux_lemma => kernel_rfl) (by as_aux_lemma => kernel_rfl) (fun h26 => ?_) (fun h26 => ?_)
        · skip
          replace h26 := of_decide_eq_true h26
          refine WK.reg1 (l := sq 0 2) (by as_aux_lemma => kernel_rfl) (by as_aux_lemma => kernel_rfl) ?_
          refine RW.runP 1 [1, 2, 31] (sq 1 2) [(1, .pointer (some ⟨b1, 0, none⟩)), (2, .pointer (some ⟨b3, 0, none⟩)), (31, .pointer (some ⟨b1, 9, none⟩))] (by as_aux_lemma => kernel_rfl) (by as_aux_lemma => kernel_rfl) ?_
          refine RW.store (d := none) (r := (sq 2 2)) (T := 30) (b := b1) (k := 9) (v := .int .i64 2) (c' := (((wrV W a3W k3W a4W k4W a5W k5W a6W k6W).set 7 (.int .i64 (W.waited + 1))).set 9 (.int .i64 2)).toArray) (M' := [(b3, .cells (wrZ).toArray 32 (0, 0)), (b1, .cells (((wrV W a3W k3W a4W k4W a5W k5W a6W k6W).set 7 (.int .i64 (W.waited + 1))).set 9 (.int .i64 2)).toArray 32 (0, 0))]) (by as_aux_lemma => kernel_rfl) H 1 rfl (by as_aux_lemma => kernel_rfl) (by as_aux_lemma => kernel_rfl) ?_
          intro w27 H
          refine RW.fin 0 [1, 2] [(1, .pointer (some ⟨b1, 0, none⟩)), (2, .pointer (some ⟨b3, 0, none⟩))] (by as_aux_lemma => kernel_rfl) ?_
          refine WK.run 2 [1, 2] [.code (cd Try.prog 25 [4, 0]), .code (cd Try.prog 25 [5])] [(1, .pointer (some ⟨b1, 0, none⟩)), (2, .pointer (some ⟨b3, 0, none⟩))] (by as_aux_lemma => kernel_rfl) ?_
          refine WK.drawH1 [b3] (.leaf [(0, .qui), (1, .qui), (2, .qui), (3, .seq), (4, .qui), (5, .qui)]) Try_mixed (by as_aux_lemma => kernel_rfl) (by as_aux_lemma => kernel_rfl) ?_
          intro w28 hw29
          have H := H.draw
          rw [← hw29] at H
          clear hw29
          have hS := Chg.refl w28 [b3]
          refine RG.leaf' [(0, .qui), (1, .qui), (2, .qui), (3, .seq), (4, .qui), (5, .qui)] (by as_aux_lemma => kernel_rfl) ?_
          refine RH.load (d := some 42) (r := [(1, .qui), (2, .qui), (3, .seq), (4, .qui), (5, .qui)]) (T := 32) (b := b1) (o' := 0) (k := 0) (v := .agg (((wrV W a3W k3W a4W k4W a5W k5W a6W k6W).set 7 (.int .i64 (W.waited + 1))).set 9 (.int .i64 2)).toArray) (by as_aux_lemma => kernel_rfl) hS (H.cells 1 rfl) (by intro hq; simp only [List.mem_cons, List.not_mem_nil, or_false] at hq; exact H.raws 1 0 rfl rfl (by decide) hq) (by simp) rfl (by as_aux_lemma => kernel_rfl) ?_
          refine RH.runP hS 1 [2, 42, 43] [(2, .qui), (3, .seq), (4, .qui), (5, .qui)] [(2, .pointer (some ⟨b3, 0, none⟩)), (42, .agg (((wrV W a3W k3W a4W k4W a5W k5W a6W k6W).set 7 (.int .i64 (W.waited + 1))).set 9 (.int .i64 2)).toArray), (43, .pointer (some ⟨b1, 9, none⟩))] (by as_aux_lemma => kernel_rfl) (by as_aux_lemma => kernel_rfl) ?_
          refine RH.load (d := some 44) (r := [(3, .seq), (4, .qui), (5, .qui)]) (T := 30) (b := b1) (o' := 9) (k := 9) (v := .int .i64 2) (by as_aux_lemma => kernel_rfl) hS (H.cells 1 rfl) (by intro hq; simp only [List.mem_cons, List.not_mem_nil, or_false] at hq; exact H.raws 1 0 rfl rfl (by decide) hq) (by simp) rfl (by as_aux_lemma => kernel_rfl) ?_
          have Hr := H
          refine RH.sto ?_
          refine RW.storeC (d := none) (r := []) (T := 32) (b := b3) (k := 0) (v := .agg (((wrV W a3W k3W a4W k4W a5W k5W a6W k6W).set 7 (.int .i64 (W.waited + 1))).set 9 (.int .i64 2)).toArray) (c' := (((wrV W a3W k3W a4W k4W a5W k5W a6W k6W).set 7 (.int .i64 (W.waited + 1))).set 9 (.int .i64 2)).toArray) (M' := [(b3, .cells (((wrV W a3W k3W a4W k4W a5W k5W a6W k6W).set 7 (.int .i64 (W.waited + 1))).set 9 (.int .i64 2)).toArray 32 (0, 0)), (b1, .cells (((wrV W a3W k3W a4W k4W a5W k5W a6W k6W).set 7 (.int .i64 (W.waited + 1))).set 9 (.int .i64 2)).toArray 32 (0, 0))]) (by as_aux_lemma => kernel_rfl) H 0 rfl (by as_aux_lemma => kernel_rfl) (by as_aux_lemma => kernel_rfl) ?_
          intro w31 hch30 H
          have hS32 := hS.sto hch30 (.inr (by simp))
          refine ⟨hS32, ?_⟩
          have hS := hS32
          refine RH.fin hS 2 [2, 3, 4] [(2, .pointer (some ⟨b3, 0, none⟩)), (3, .slice none 0 0), (4, .int .i64 2)] (by as_aux_lemma => kernel_rfl) ?_
          refine WK.retBy (v := .tuple #[.agg (((wrV W a3W k3W a4W k4W a5W k5W a6W k6W).set 7 (.int .i64 (W.waited + 1))).set 9 (.int .i64 2)).toArray, .slice none 0 0, .int .i64 2]) Try.func25 (by as_aux_lemma => kernel_rfl) (RV.res3 (x := .cell 2 32) (y := .tmp 3) (z := .tmp 4) (by as_aux_lemma => kernel_rfl) (RV.cell (k := 0) (by as_aux_lemma => kernel_rfl) (H.cells 0 rfl) rfl (by as_aux_lemma => kernel_rfl)) (RV.tmp (by as_aux_lemma => kernel_rfl)) (RV.tmp (by as_aux_lemma => kernel_rfl))) ?_
          have hpost : (⟨W.client, W.seq, W.key, W.heads, W.chunks, W.nodes, W.acks, W.waited + 1, W.limit, 2⟩, ([] : List Msg), (2 : Int)) = tickOf W := by
            clear H
            symm
            unfold tickOf
            rw [if_neg (by rw [hrw9]; simp; omega)]; rw [if_pos (by omega)]
          exact ⟨_, rfl, H.done, [.int .u64 W.client, .int .u64 W.seq, .string W.key, .slice a3W W.heads.length k3W, .slice a4W W.chunks.length k4W, .slice a5W W.nodes.length k5W, .slice a6W W.acks.length k6W, .int .i64 (W.waited + 1), .int .i64 W.limit, .int .i64 2], none, 0, ⟨W.client, W.seq, W.key, W.heads, W.chunks, W.nodes, W.acks, W.waited + 1, W.limit, 2⟩, [], 2, rfl, H.out (wr_mk (l0 := [.int .u64 W.client]) (y0 := W.client) (l1 := [.int .u64 W.seq]) (y1 := W.seq) (l2 := [.string W.key]) (y2 := W.key) (l3 := [.slice a3W W.heads.length k3W]) (y3 := W.heads) (l4 := [.slice a4W W.chunks.length k4W]) (y4 := W.chunks) (l5 := [.slice a5W W.nodes.length k5W]) (y5 := W.nodes) (l6 := [.slice a6W W.acks.length k6W]) (y6 := W.acks) (l7 := [.int .i64 (W.waited + 1)]) (y7 := W.waited + 1) (l8 := [.int .i64 W.limit]) (y8 := W.limit) (l9 := [.int .i64 2]) (y9 := 2) (Shape.u64_in (by first | omega | (simp <;> omega)) (by first | omega | (simp <;> omega))) (Shape.u64_in (by first | omega | (simp <;> omega)) (by first | omega | (simp <;> omega))) ⟨rfl, h2W⟩ (H.rp 0 rfl) (H.rp 1 rfl) (H.rp 2 rfl) (H.rp 3 rfl) (Shape.i64_in (by first | omega | (simp <;> omega)) (by first | omega | (simp <;> omega))) (Shape.i64_in (by first | omega | (simp <;> omega)) (by first | omega | (simp <;> omega))) (Shape.int_mk (by decide))), Shape.slice_nil, hpost⟩
        · skip
          replace h26 := of_decide_eq_false h26
          refine WK.run 1 [1, 2] [.code (cd Try.prog 25 [3, 0, 0, 1, 1, 0]), .code (cd Try.prog 25 [3, 0, 0, 1, 1, 1]), .inBlock 0, .code (cd Try.prog 25 [4])] [(1, .pointer (some ⟨b1, 0, none⟩)), (2, .pointer (some ⟨b3, 0, none⟩))] (by as_aux_lemma => kernel_rfl) ?_
          refine WK.reg1 (l := sq 0 5) (by as_aux_lemma => kernel_rfl) (by as_aux_lemma => kernel_rfl) ?_
          refine RW.runP 1 [1, 2, 33] (sq 1 5) [(1, .pointer (some ⟨b1, 0, none⟩)), (2, .pointer (some ⟨b3, 0, none⟩)), (33, .pointer (some ⟨b1, 7, none⟩))] (by as_aux_lemma => kernel_rfl) (by as_aux_lemma => kernel_rfl) ?_
          refine RW.load (κ := .seq) (d := some 34) (r := (sq 2 5)) (T := 3) (b := b1) (o' := 7) (k := 7) (v := .int .i64 (W.waited + 1)) (by as_aux_lemma => kernel_rfl) (H.cells 1 rfl) rfl (by as_aux_lemma => kernel_rfl) ?_
          refine RW.pv (κ := .seq) (d := some 35) (r := (sq 3 5)) (v := .int .i64 ((W.waited + 1).tmod 4)) (v' := .int .i64 ((W.waited + 1) % 4)) (by as_aux_lemma => kernel_rfl) (rem_id (by omega)) ?_
          refine RW.fin 2 [1, 2, 32] [(1, .pointer (some ⟨b1, 0, none⟩)), (2, .pointer (some ⟨b3, 0, none⟩)), (32, .bool (((W.waited + 1) % 4) == 0))] (by as_aux_lemma => kernel_rfl) ?_
          refine WK.cond1 (((W.waited + 1) % 4) == 0) (by as_aux_lemma => kernel_rfl) (by as_aux_lemma => kernel_rfl) (fun h33 => ?_) (fun h33 => ?_)
          · skip
            replace h33 := eq_of_beq h33
            refine WK.run 1 [1, 2] [.code (cd Try.prog 25 [3, 0, 0, 1, 1, 1, 0, 0]), .code (cd Try.prog 25 [3, 0, 0, 1, 1, 1, 0, 1]), .inBlock 0, .code (cd Try.prog 25 [4])] [(1, .pointer (some ⟨b1, 0, none⟩)), (2, .pointer (some ⟨b3, 0, none⟩))] (by as_aux_lemma => kernel_rfl) ?_
            refine WK.drawH1 [b3] (.leaf [(0, .qui), (1, .qui), (3, .qui), (4, .qui), (2, .seq), (5, .seq), (6, .qui), (7, .qui)]) Try_mixed (by as_aux_lemma => kernel_rfl) (by as_aux_lemma => kernel_rfl) ?_
            intro w34 hw35
            have H := H.draw
            rw [← hw35] at H
            clear hw35
            have hS := Chg.refl w34 [b3]
            refine RG.leaf' [(0, .qui), (1, .qui), (3, .qui), (4, .qui), (2, .seq), (5, .seq), (6, .qui), (7, .qui)] (by as_aux_lemma => kernel_rfl) ?_
            refine RH.load (d := some 37) (r := [(1, .qui), (3, .qui), (4, .qui), (2, .seq), (5, .seq), (6, .qui), (7, .qui)]) (T := 32) (b := b1) (o' := 0) (k := 0) (v := .agg ((wrV W a3W k3W a4W k4W a5W k5W a6W k6W).set 7 (.int .i64 (W.waited + 1))).toArray) (by as_aux_lemma => kernel_rfl) hS (H.cells 1 rfl) (by intro hq; simp only [List.mem_cons, List.not_mem_nil, or_false] at hq; exact H.raws 1 0 rfl rfl (by decide) hq) (by simp) rfl (by as_aux_lemma => kernel_rfl) ?_
            refine RH.load (d := some 38) (r := [(3, .qui), (4, .qui), (2, .seq), (5, .seq), (6, .qui), (7, .qui)]) (T := 32) (b := b1) (o' := 0) (k := 0) (v := .agg ((wrV W a3W k3W a4W k4W a5W k5W a6W k6W).set 7 (.int .i64 (W.waited + 1))).toArray) (by as_aux_lemma => kernel_rfl) hS (H.cells 1 rfl) (by intro hq; simp only [List.mem_cons, List.not_mem_nil, or_false] at hq; exact H.raws 1 0 rfl rfl (by decide) hq) (by simp) rfl (by as_aux_lemma => kernel_rfl) ?_
            refine RH.runP hS 1 [2, 37, 38, 40] [(4, .qui), (2, .seq), (5, .seq), (6, .qui), (7, .qui)] [(2, .pointer (some ⟨b3, 0, none⟩)), (37, .agg ((wrV W a3W k3W a4W k4W a5W k5W a6W k6W).set 7 (.int .i64 (W.waited + 1))).toArray), (38, .agg ((wrV W a3W k3W a4W k4W a5W k5W a6W k6W).set 7 (.int .i64 (W.waited + 1))).toArray), (40, .pointer (some ⟨b1, 9, none⟩))] (by as_aux_lemma => kernel_rfl) (by as_aux_lemma => kernel_rfl) ?_
            refine RH.load (d := some 41) (r := [(2, .seq), (5, .seq), (6, .qui), (7, .qui)]) (T := 30) (b := b1) (o' := 9) (k := 9) (v := .int .i64 W.done) (by as_aux_lemma => kernel_rfl) hS (H.cells 1 rfl) (by intro hq; simp only [List.mem_cons, List.not_mem_nil, or_false] at hq; exact H.raws 1 0 rfl rfl (by decide) hq) (by simp) rfl (by as_aux_lemma => kernel_rfl) ?_
            have Hr := H
            refine RH.chn hS ?_
            refine RW.call (κ := .chn) (d := some 39) (r := []) (g := 57) (args := #[.agg ((wrV W a3W k3W a4W k4W a5W k5W a6W k6W).set 7 (.int .i64 (W.waited + 1))).toArray]) (by as_aux_lemma => kernel_rfl) (nofun) (prepares_spec (S := Av S w [] (idsOf [(b3, .cells (wrZ).toArray 32 (0, 0)), (b1, .cells ((wrV W a3W k3W a4W k4W a5W k5W a6W k6W).set 7 (.int .i64 (W.waited + 1))).toArray 32 (0, 0))] [])) (W := ⟨W.client, W.seq, W.key, W.heads, W.chunks, W.nodes, W.acks, W.waited + 1, W.limit, W.done⟩) (wr_mk (l0 := [.int .u64 W.client]) (y0 := W.client) (l1 := [.int .u64 W.seq]) (y1 := W.seq) (l2 := [.string W.key]) (y2 := W.key) (l3 := [.slice a3W W.heads.length k3W]) (y3 := W.heads) (l4 := [.slice a4W W.chunks.length k4W]) (y4 := W.chunks) (l5 := [.slice a5W W.nodes.length k5W]) (y5 := W.nodes) (l6 := [.slice a6W W.acks.length k6W]) (y6 := W.acks) (l7 := [.int .i64 (W.waited + 1)]) (y7 := W.waited + 1) (l8 := [.int .i64 W.limit]) (y8 := W.limit) (l9 := [.int .i64 W.done]) (y9 := W.done) (Shape.u64_in (by first | omega | (simp <;> omega)) (by first | omega | (simp <;> omega))) (Shape.u64_in (by first | omega | (simp <;> omega)) (by first | omega | (simp <;> omega))) ⟨rfl, h2W⟩ (H.rp 0 rfl) (H.rp 1 rfl) (H.rp 2 rfl) (H.rp 3 rfl) (Shape.i64_in (by first | omega | (simp <;> omega)) (by first | omega | (simp <;> omega))) (Shape.i64_in (by first | omega | (simp <;> omega)) (by first | omega | (simp <;> omega))) (Shape.i64_in (by first | omega | (simp <;> omega)) (by first | omega | (simp <;> omega)))) (by first | assumption | omega | (dsimp only; omega)) (by first | assumption | omega | (dsimp only; omega)) (by first | assumption | exact hcb9)) ?_
            rintro _ w37 hE40 ⟨a38, c39, rfl, hr41⟩
            have H := H.addN hE40 (F := Rp (Shape.slice msgS) [.slice a38 ((msgsOf (⟨W.client, W.seq, W.key, W.heads, W.chunks, W.nodes, W.acks, W.waited + 1, W.limit, W.done⟩)).length) c39] (msgsOf (⟨W.client, W.seq, W.key, W.heads, W.chunks, W.nodes, W.acks, W.waited + 1, W.limit, W.done⟩))) hr41
            intro hS
            refine RH.sto ?_
            refine RW.storeC (d := none) (r := []) (T := 32) (b := b3) (k := 0) (v := .agg ((wrV W a3W k3W a4W k4W a5W k5W a6W k6W).set 7 (.int .i64 (W.waited + 1))).toArray) (c' := ((wrV W a3W k3W a4W k4W a5W k5W a6W k6W).set 7 (.int .i64 (W.waited + 1))).toArray) (M' := [(b3, .cells ((wrV W a3W k3W a4W k4W a5W k5W a6W k6W).set 7 (.int .i64 (W.waited + 1))).toArray 32 (0, 0)), (b1, .cells ((wrV W a3W k3W a4W k4W a5W k5W a6W k6W).set 7 (.int .i64 (W.waited + 1))).toArray 32 (0, 0))]) (by as_aux_lemma => kernel_rfl) H 0 rfl (by as_aux_lemma => kernel_rfl) (by as_aux_lemma => kernel_rfl) ?_
            intro w43 hch42 H
            have hS44 := hS.sto hch42 (.inr (by simp))
            refine ⟨hS44, ?_⟩
            have hS := hS44
            refine RH.fin hS 2 [2, 3, 4] [(2, .pointer (some ⟨b3, 0, none⟩)), (3, .slice a38 ((msgsOf (⟨W.client, W.seq, W.key, W.heads, W.chunks, W.nodes, W.acks, W.waited + 1, W.limit, W.done⟩)).length) c39), (4, .int .i64 W.done)] (by as_aux_lemma => kernel_rfl) ?_
            refine WK.retBy (v := .tuple #[.agg ((wrV W a3W k3W a4W k4W a5W k5W a6W k6W).set 7 (.int .i64 (W.waited + 1))).toArray, .slice a38 ((msgsOf (⟨W.client, W.seq, W.key, W.heads, W.chunks, W.nodes, W.acks, W.waited + 1, W.limit, W.done⟩)).length) c39, .int .i64 W.done]) Try.func25 (by as_aux_lemma => kernel_rfl) (RV.res3 (x := .cell 2 32) (y := .tmp 3) (z := .tmp 4) (by as_aux_lemma => kernel_rfl) (RV.cell (k := 0) (by as_aux_lemma => kernel_rfl) (H.cells 0 rfl) rfl (by as_aux_lemma => kernel_rfl)) (RV.tmp (by as_aux_lemma => kernel_rfl)) (RV.tmp (by as_aux_lemma => kernel_rfl))) ?_
            have hpost : (⟨W.client, W.seq, W.key, W.heads, W.chunks, W.nodes, W.acks, W.waited + 1, W.limit, W.done⟩, (msgsOf (⟨W.client, W.seq, W.key, W.heads, W.chunks, W.nodes, W.acks, W.waited + 1, W.limit, W.done⟩) : List Msg), (W.done : Int)) = tickOf W := by
              clear H
              symm
              unfold tickOf
              rw [if_neg (by rw [hrw9]; simp; omega)]; rw [if_neg (by omega)]; rw [if_pos (by omega)]
            exact ⟨_, rfl, H.done, [.int .u64 W.client, .int .u64 W.seq, .string W.key, .slice a3W W.heads.length k3W, .slice a4W W.chunks.length k4W, .slice a5W W.nodes.length k5W, .slice a6W W.acks.length k6W, .int .i64 (W.waited + 1), .int .i64 W.limit, .int .i64 W.done], a38, c39, ⟨W.client, W.seq, W.key, W.heads, W.chunks, W.nodes, W.acks, W.waited + 1, W.limit, W.done⟩, msgsOf (⟨W.client, W.seq, W.key, W.heads, W.chunks, W.nodes, W.acks, W.waited + 1, W.limit, W.done⟩), W.done, rfl, H.out (wr_mk (l0 := [.int .u64 W.client]) (y0 := W.client) (l1 := [.int .u64 W.seq]) (y1 := W.seq) (l2 := [.string W.key]) (y2 := W.key) (l3 := [.slice a3W W.heads.length k3W]) (y3 := W.heads) (l4 := [.slice a4W W.chunks.length k4W]) (y4 := W.chunks) (l5 := [.slice a5W W.nodes.length k5W]) (y5 := W.nodes) (l6 := [.slice a6W W.acks.length k6W]) (y6 := W.acks) (l7 := [.int .i64 (W.waited + 1)]) (y7 := W.waited + 1) (l8 := [.int .i64 W.limit]) (y8 := W.limit) (l9 := [.int .i64 W.done]) (y9 := W.done) (Shape.u64_in (by first | omega | (simp <;> omega)) (by first | omega | (simp <;> omega))) (Shape.u64_in (by first | omega | (simp <;> omega)) (by first | omega | (simp <;> omega))) ⟨rfl, h2W⟩ (H.rp 1 rfl) (H.rp 2 rfl) (H.rp 3 rfl) (H.rp 4 rfl) (Shape.i64_in (by first | omega | (simp <;> omega)) (by first | omega | (simp <;> omega))) (Shape.i64_in (by first | omega | (simp <;> omega)) (by first | omega | (simp <;> omega))) (Shape.i64_in (by first | omega | (simp <;> omega)) (by first | omega | (simp <;> omega)))), H.out (H.rp 0 rfl), hpost⟩
          · skip
            replace h33 := ne_of_beq_false h33
            refine WK.run 3 [1, 2] [.code (cd Try.prog 25 [4, 0]), .code (cd Try.prog 25 [5])] [(1, .pointer (some ⟨b1, 0, none⟩)), (2, .pointer (some ⟨b3, 0, none⟩))] (by as_aux_lemma => kernel_rfl) ?_
            refine WK.drawH1 [b3] (.leaf [(0, .qui), (1, .qui), (2, .qui), (3, .seq), (4, .qui), (5, .qui)]) Try_mixed (by as_aux_lemma => kernel_rfl) (by as_aux_lemma => kernel_rfl) ?_
            intro w45 hw46
            have H := H.draw
            rw [← hw46] at H
            clear hw46
            have hS := Chg.refl w45 [b3]
            refine RG.leaf' [(0, .qui), (1, .qui), (2, .qui), (3, .seq), (4, .qui), (5, .qui)] (by as_aux_lemma => kernel_rfl) ?_
            refine RH.load (d := some 42) (r := [(1, .qui), (2, .qui), (3, .seq), (4, .qui), (5, .qui)]) (T := 32) (b := b1) (o' := 0) (k := 0) (v := .agg ((wrV W a3W k3W a4W k4W a5W k5W a6W k6W).set 7 (.int .i64 (W.waited + 1))).toArray) (by as_aux_lemma => kernel_rfl) hS (H.cells 1 rfl) (by intro hq; simp only [List.mem_cons, List.not_mem_nil, or_false] at hq; exact H.raws 1 0 rfl rfl (by decide) hq) (by simp) rfl (by as_aux_lemma => kernel_rfl) ?_
            refine RH.runP hS 1 [2, 42, 43] [(2, .qui), (3, .seq), (4, .qui), (5, .qui)] [(2, .pointer (some ⟨b3, 0, none⟩)), (42, .agg ((wrV W a3W k3W a4W k4W a5W k5W a6W k6W).set 7 (.int .i64 (W.waited + 1))).toArray), (43, .pointer (some ⟨b1, 9, none⟩))] (by as_aux_lemma => kernel_rfl) (by as_aux_lemma => kernel_rfl) ?_
            refine RH.load (d := some 44) (r := [(3, .seq), (4, .qui), (5, .qui)]) (T := 30) (b := b1) (o' := 9) (k := 9) (v := .int .i64 W.done) (by as_aux_lemma => kernel_rfl) hS (H.cells 1 rfl) (by intro hq; simp only [List.mem_cons, List.not_mem_nil, or_false] at hq; exact H.raws 1 0 rfl rfl (by decide) hq) (by simp) rfl (by as_aux_lemma => kernel_rfl) ?_
            have Hr := H
            refine RH.sto ?_
            refine RW.storeC (d := none) (r := []) (T := 32) (b := b3) (k := 0) (v := .agg ((wrV W a3W k3W a4W k4W a5W k5W a6W k6W).set 7 (.int .i64 (W.waited + 1))).toArray) (c' := ((wrV W a3W k3W a4W k4W a5W k5W a6W k6W).set 7 (.int .i64 (W.waited + 1))).toArray) (M' := [(b3, .cells ((wrV W a3W k3W a4W k4W a5W k5W a6W k6W).set 7 (.int .i64 (W.waited + 1))).toArray 32 (0, 0)), (b1, .cells ((wrV W a3W k3W a4W k4W a5W k5W a6W k6W).set 7 (.int .i64 (W.waited + 1))).toArray 32 (0, 0))]) (by as_aux_lemma => kernel_rfl) H 0 rfl (by as_aux_lemma => kernel_rfl) (by as_aux_lemma => kernel_rfl) ?_
            intro w48 hch47 H
            have hS49 := hS.sto hch47 (.inr (by simp))
            refine ⟨hS49, ?_⟩
            have hS := hS49
            refine RH.fin hS 2 [2, 3, 4] [(2, .pointer (some ⟨b3, 0, none⟩)), (3, .slice none 0 0), (4, .int .i64 W.done)] (by as_aux_lemma => kernel_rfl) ?_
            refine WK.retBy (v := .tuple #[.agg ((wrV W a3W k3W a4W k4W a5W k5W a6W k6W).set 7 (.int .i64 (W.waited + 1))).toArray, .slice none 0 0, .int .i64 W.done]) Try.func25 (by as_aux_lemma => kernel_rfl) (RV.res3 (x := .cell 2 32) (y := .tmp 3) (z := .tmp 4) (by as_aux_lemma => kernel_rfl) (RV.cell (k := 0) (by as_aux_lemma => kernel_rfl) (H.cells 0 rfl) rfl (by as_aux_lemma => kernel_rfl)) (RV.tmp (by as_aux_lemma => kernel_rfl)) (RV.tmp (by as_aux_lemma => kernel_rfl))) ?_
            have hpost : (⟨W.client, W.seq, W.key, W.heads, W.chunks, W.nodes, W.acks, W.waited + 1, W.limit, W.done⟩, ([] : List Msg), (W.done : Int)) = tickOf W := by
              clear H
              symm
              unfold tickOf
              rw [if_neg (by rw [hrw9]; simp; omega)]; rw [if_neg (by omega)]; rw [if_neg (by omega)]
            exact ⟨_, rfl, H.done, [.int .u64 W.client, .int .u64 W.seq, .string W.key, .slice a3W W.heads.length k3W, .slice a4W W.chunks.length k4W, .slice a5W W.nodes.length k5W, .slice a6W W.acks.length k6W, .int .i64 (W.waited + 1), .int .i64 W.limit, .int .i64 W.done], none, 0, ⟨W.client, W.seq, W.key, W.heads, W.chunks, W.nodes, W.acks, W.waited + 1, W.limit, W.done⟩, [], W.done, rfl, H.out (wr_mk (l0 := [.int .u64 W.client]) (y0 := W.client) (l1 := [.int .u64 W.seq]) (y1 := W.seq) (l2 := [.string W.key]) (y2 := W.key) (l3 := [.slice a3W W.heads.length k3W]) (y3 := W.heads) (l4 := [.slice a4W W.chunks.length k4W]) (y4 := W.chunks) (l5 := [.slice a5W W.nodes.length k5W]) (y5 := W.nodes) (l6 := [.slice a6W W.acks.length k6W]) (y6 := W.acks) (l7 := [.int .i64 (W.waited + 1)]) (y7 := W.waited + 1) (l8 := [.int .i64 W.limit]) (y8 := W.limit) (l9 := [.int .i64 W.done]) (y9 := W.done) (Shape.u64_in (by first | omega | (simp <;> omega)) (by first | omega | (simp <;> omega))) (Shape.u64_in (by first | omega | (simp <;> omega)) (by first | omega | (simp <;> omega))) ⟨rfl, h2W⟩ (H.rp 0 rfl) (H.rp 1 rfl) (H.rp 2 rfl) (H.rp 3 rfl) (Shape.i64_in (by first | omega | (simp <;> omega)) (by first | omega | (simp <;> omega))) (Shape.i64_in (by first | omega | (simp <;> omega)) (by first | omega | (simp <;> omega))) (Shape.i64_in (by first | omega | (simp <;> omega)) (by first | omega | (simp <;> omega)))), Shape.slice_nil, hpost⟩


end Go.Proofs.Ytppcdmbkgficiaa
