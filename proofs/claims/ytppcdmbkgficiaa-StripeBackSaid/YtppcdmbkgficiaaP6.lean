import Derived.Test.YtppcdmbkgficiaaP5
namespace Go.Proofs.Ytppcdmbkgficiaa
open Go.BX

def objL (ys : List Pc) (k n size : Nat) : List (BitVec 8) := (datL ys k n (lenOf size k)).flatten.take size
theorem flat_len {m : List (List (BitVec 8))} {l : Nat} (h : ∀ x ∈ m, x.length = l) : m.flatten.length = m.length * l := by
  rw [← catTo_all]
  exact catTo_len h (Nat.le_refl _)
theorem objL_len {ys : List Pc} {k n size : Nat} (hk : 1 ≤ k) (h : k ≤ ys.length) (hd : ∀ p ∈ ys, p.data.length = lenOf size k) : (objL ys k n size).length = size := by
  unfold objL
  rw [List.length_take, flat_len (datL_all hd), datL_len h]
  have := lenOf_mul (size := size) (k := k) (by omega)
  omega

theorem decode_ok {S : Nat → Prop} {w : World} {ps : List Pc} {a : Option Addr} {c : Nat} (h : (Shape.slice pcS).rep S w [.slice a ps.length c] ps) {size k n : Nat} (hs : size ≤ 65536) (hk : 1 ≤ k) (hkn : k ≤ n) (hn : n ≤ 255) (hok : PsOk ps n (lenOf size k)) (hlen : k ≤ ps.length) (hreg : ∀ ys : List Pc, ys.Perm ps → ys.Pairwise (fun x y => x.index ≤ y.index) → (redTo (subM ys k n) (ident k) k).1 = k) :
    Calls Try.prog 31 #[.slice a ps.length c, .int .i64 (size : Int), .int .i64 (k : Int), .int .i64 (n : Int)] w (Ret fun v w' => Ext w w' ∧ ∃ (a : Option Addr) (c : Nat) (ys : List Pc), v = .tuple #[.slice a (objL ys k n size).length c, .int .i64 0] ∧ ys.Perm ps ∧ ys.Pairwise (fun x y => x.index ≤ y.index) ∧ (Shape.slice (Shape.bv .u8 8)).rep (Nw S w) w' [.slice a (objL ys k n size).length c] (objL ys k n size)) := by
  refine WK.calls1 (fn := Try.f31) (n := 29) (σ := [(0, .slice a ps.length c), (1, .int .i64 (size : Int)), (2, .int .i64 (k : Int)), (3, .int .i64 (n : Int))]) Try.func31 rfl (by as_aux_lemma => kernel_rfl) (by as_aux_lemma => kernel_rfl) (by as_aux_lemma => kernel_rfl) ?_
  have H := Hp.startF (w := w) (S := S) (G := [Rp (Shape.slice pcS) [.slice a ps.length c] ps]) (.rp h .nil)
  refine WK.run 3 [0, 1, 2, 3] [.code (cd Try.prog 31 [1, 0]), .code (cd Try.prog 31 [2])] [(0, .slice a ps.length c), (1, .int .i64 (size : Int)), (2, .int .i64 (k : Int)), (3, .int .i64 (n : Int))] (by as_aux_lemma => kernel_rfl) ?_
  refine WK.reg1 (l := sq 0 12) (by as_aux_lemma => kernel_rfl) (by as_aux_lemma => kernel_rfl) ?_
  refine RW.runP 4 [1, 14, 15, 16, 17] (sq 4 12) [(1, .int .i64 (size : Int)), (14, .slice a ps.length c), (15, .int .i64 (size : Int)), (16, .int .i64 (k : Int)), (17, .int .i64 (n : Int))] (by as_aux_lemma => kernel_rfl) (by as_aux_lemma => kernel_rfl) ?_
  refine RW.call (κ := .seq) (d := some 18) (r := (sq 5 12)) (g := 69) (args := #[.slice a ps.length c, .int .i64 (size : Int), .int .i64 (k : Int), .int .i64 (n : Int)]) (by as_aux_lemma => kernel_rfl) (nofun) (data_ok (S := Av S w [] (idsOf [] [])) (ps := ps) (H.rp 0 rfl) (size := size) (k := k) (n := n) hs hk hkn hn hok hlen hreg) ?_
  rintro _ w1 hE4 ⟨a2, c3, ys, rfl, hys, hord, hr5⟩
  have H := H.addN hE4 (F := Rp (Shape.slice (Shape.slice (Shape.bv .u8 8))) [.slice a2 ((datL ys k n (lenOf size k)).length) c3] (datL ys k n (lenOf size k))) hr5
  have hyl := hys.length_eq
  have hyd : ∀ p ∈ ys, p.data.length = lenOf size k := fun p hp => hok.len p (hys.mem_iff.1 hp)
  have hdl := datL_len (n := n) (l := lenOf size k) (show k ≤ ys.length by omega)
  have hda := datL_all (k := k) (n := n) hyd
  have hLs := lenOf_le (size := size) (k := k) (by omega)
  have hfl := flat_len hda
  have hmu := lenOf_mul (size := size) (k := k) (by omega)
  rw [hdl] at hfl
  refine RW.fin 7 [1, 10, 12] [(1, .int .i64 (size : Int)), (10, .slice a2 ((datL ys k n (lenOf size k)).length) c3), (12, .int .i64 0)] (by as_aux_lemma => kernel_rfl) ?_
  refine WK.run 6 [1, 10] [.code (cd Try.prog 31 [3, 0]), .code (cd Try.prog 31 [4])] [(1, .int .i64 (size : Int)), (10, .slice a2 ((datL ys k n (lenOf size k)).length) c3)] (by as_aux_lemma => kernel_rfl) ?_
  refine WK.reg1 (l := sq 0 6) (by as_aux_lemma => kernel_rfl) (by as_aux_lemma => kernel_rfl) ?_
  refine RW.runP 1 [1, 25] (sq 1 6) [(1, .int .i64 (size : Int)), (25, .slice a2 ((datL ys k n (lenOf size k)).length) c3)] (by as_aux_lemma => kernel_rfl) (by as_aux_lemma => kernel_rfl) ?_
  refine RW.call (κ := .seq) (d := some 26) (r := (sq 2 6)) (g := 70) (args := #[.slice a2 ((datL ys k n (lenOf size k)).length) c3]) (by as_aux_lemma => kernel_rfl) (nofun) (concat_spec (m := (datL ys k n (lenOf size k))) (H.rp 0 rfl) (by omega) (l := lenOf size k) (hda) (by omega)) ?_
  rintro v7 w6 - H'
  have H := H.back (M1 := []) (W1 := []) H'
  obtain ⟨a8, c9, rfl, hc10, hm11⟩ := H.ownForm 0 rfl
  have H : Hp w S [] [] [⟨Shape.bv .u8 8, 5, .slice a8 (((datL ys k n (lenOf size k)).flatten).length) c9, (datL ys k n (lenOf size k)).flatten⟩] [Rp (Shape.slice (Shape.slice (Shape.bv .u8 8))) [.slice a2 ((datL ys k n (lenOf size k)).length) c3] (datL ys k n (lenOf size k)), Rp (Shape.slice pcS) [.slice a ps.length c] ps] _ := H
  refine RW.runP 1 [26, 27] (sq 3 6) [(26, .slice a8 (((datL ys k n (lenOf size k)).flatten).length) c9), (27, .int .i64 (size : Int))] (by as_aux_lemma => kernel_rfl) (by as_aux_lemma => kernel_rfl) ?_
  have H : Hp w S [] [] [] [Rp (Shape.slice (Shape.bv .u8 8)) [.slice a8 (((datL ys k n (lenOf size k)).flatten).length) c9] ((datL ys k n (lenOf size k)).flatten), Rp (Shape.slice (Shape.slice (Shape.bv .u8 8))) [.slice a2 ((datL ys k n (lenOf size k)).length) c3] (datL ys k n (lenOf size k)), Rp (Shape.slice pcS) [.slice a ps.length c] ps] _ := H.freezeW 0 rfl
  refine RW.slice (κ := .seq) (d := some 28) (r := (sq 4 6)) (T := 23) (e := 5) (sh := (Shape.bv .u8 8)) (a := a8) (len := (((datL ys k n (lenOf size k)).flatten).length)) (cap := c9) (zs := (objL ys k n size)) (lv := none) (hv := (some (.int .i64 (size : Int)))) (by as_aux_lemma => kernel_rfl) (by as_aux_lemma => kernel_rfl) H 0 rfl 0 size .nil (.mk (by omega)) (by omega) (by omega) (by rw [List.drop_zero]; rfl) ?_
  intro a12 H
  refine RW.fin 2 [8, 9] [(8, .slice a12 ((objL ys k n size).length) c9), (9, .int .i64 0)] (by as_aux_lemma => kernel_rfl) ?_
  refine WK.ret (v := .tuple #[.slice a12 ((objL ys k n size).length) c9, .int .i64 0]) Try.func31 (by as_aux_lemma => kernel_rfl) (by as_aux_lemma => kernel_rfl) ?_
  exact ⟨_, rfl, H.done, _, _, ys, rfl, hys, hord, H.out (H.rp 0 rfl)⟩

theorem decode_few {S : Nat → Prop} {w : World} {ps : List Pc} {a : Option Addr} {c : Nat} (h : (Shape.slice pcS).rep S w [.slice a ps.length c] ps) {size k n : Nat} (hs : size ≤ 65536) (hk : 1 ≤ k) (hkn : k ≤ n) (hn : n ≤ 255) (hok : PsOk ps n (lenOf size k)) (hlen : ps.length < k) :
    Calls Try.prog 31 #[.slice a ps.length c, .int .i64 (size : Int), .int .i64 (k : Int), .int .i64 (n : Int)] w (Ret fun v w' => Ext w w' ∧ v = .tuple #[.slice none 0 0, .int .i64 30]) := by
  refine WK.calls1 (fn := Try.f31) (n := 29) (σ := [(0, .slice a ps.length c), (1, .int .i64 (size : Int)), (2, .int .i64 (k : Int)), (3, .int .i64 (n : Int))]) Try.func31 rfl (by as_aux_lemma => kernel_rfl) (by as_aux_lemma => kernel_rfl) (by as_aux_lemma => kernel_rfl) ?_
  have H := Hp.startF (w := w) (S := S) (G := [Rp (Shape.slice pcS) [.slice a ps.length c] ps]) (.rp h .nil)
  refine WK.run 3 [0, 1, 2, 3] [.code (cd Try.prog 31 [1, 0]), .code (cd Try.prog 31 [2])] [(0, .slice a ps.length c), (1, .int .i64 (size : Int)), (2, .int .i64 (k : Int)), (3, .int .i64 (n : Int))] (by as_aux_lemma => kernel_rfl) ?_
  refine WK.reg1 (l := sq 0 12) (by as_aux_lemma => kernel_rfl) (by as_aux_lemma => kernel_rfl) ?_
  refine RW.runP 4 [1, 14, 15, 16, 17] (sq 4 12) [(1, .int .i64 (size : Int)), (14, .slice a ps.length c), (15, .int .i64 (size : Int)), (16, .int .i64 (k : Int)), (17, .int .i64 (n : Int))] (by as_aux_lemma => kernel_rfl) (by as_aux_lemma => kernel_rfl) ?_
  refine RW.call (κ := .seq) (d := some 18) (r := (sq 5 12)) (g := 69) (args := #[.slice a ps.length c, .int .i64 (size : Int), .int .i64 (k : Int), .int .i64 (n : Int)]) (by as_aux_lemma => kernel_rfl) (nofun) (data_few (S := fun _ => True) (ps := ps) (H.viewF 0 rfl) (size := size) (k := k) (n := n) hs hk hkn hn hok hlen) ?_
  rintro _ w1 hE2 rfl
  have H := H.ext hE2
  refine RW.fin 7 [1, 10, 12] [(1, .int .i64 (size : Int)), (10, .slice none 0 0), (12, .int .i64 30)] (by as_aux_lemma => kernel_rfl) ?_
  refine WK.run 6 [8, 9] [.code (cd Try.prog 31 [2, 0, 1, 0, 1]), .code (cd Try.prog 31 [3])] [(8, .slice none 0 0), (9, .int .i64 30)] (by as_aux_lemma => kernel_rfl) ?_
  refine WK.ret (v := .tuple #[.slice none 0 0, .int .i64 30]) Try.func31 (by as_aux_lemma => kernel_rfl) (by as_aux_lemma => kernel_rfl) ?_
  exact ⟨_, rfl, H.done, rfl⟩


end Go.Proofs.Ytppcdmbkgficiaa
