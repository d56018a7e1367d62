import Derived.Test.YtppcdmbkgficiaaG5
import Derived.Test.YtppcdmbkgficiaaBxHeld
namespace Go.Proofs.Ytppcdmbkgficiaa
open Go.BX

theorem take_succ_mem {xs : List Int} {k : Nat} (hk : k < xs.length) {x : Int} : x ∈ xs.take (k + 1) ↔ x ∈ xs.take k ∨ x = xs[k] := by
  rw [List.take_succ_eq_append_getElem hk, List.mem_append, List.mem_singleton]

theorem index_spec {S : Nat → Prop} {w : World} {xs : List Int} {a : Option Addr} {c : Nat} (x : Int) (h : (Shape.slice (.int .i64)).rep S w [.slice a xs.length c] xs) :
    Calls Try.prog 91 #[.slice a xs.length c, .int .i64 x] w (Ret fun v w' => Ext w w' ∧ ∃ i : Int, v = .int .i64 i ∧ (0 ≤ i ↔ x ∈ xs)) := by
  have hlen := Shape.slice_len h
  refine WK.calls1 (fn := Try.f91) (n := 19) (σ := [(0, .slice a xs.length c), (1, .int .i64 x)]) Try.func91 rfl (by as_aux_lemma => kernel_rfl) (by as_aux_lemma => kernel_rfl) (by as_aux_lemma => kernel_rfl) ?_
  have H := Hp.startF (w := w) (S := S) (G := [Rp (Shape.slice (Shape.int .i64)) [.slice a xs.length c] xs]) (.rp h .nil)
  refine WK.run 6 [0, 1, 7, 8] [.code (cd Try.prog 91 [1, 0, 1, 0]), .inBlock 0, .code (cd Try.prog 91 [2])] [(0, .slice a xs.length c), (1, .int .i64 x), (7, .int .i64 ((xs.length : Nat) : Int)), (8, .int .i64 0)] (by as_aux_lemma => kernel_rfl) ?_
  refine WK.loop (α := Nat) (b := cd Try.prog 91 [1, 0, 1, 0, 0]) (by as_aux_lemma => kernel_rfl) (fun k => [(0, .slice a xs.length c), (1, .int .i64 x), (7, .int .i64 ((xs.length : Nat) : Int)), (8, .int .i64 (k : Int))]) (fun k w' => Hp w S [] [] [] [Rp (Shape.slice (Shape.int .i64)) [.slice a xs.length c] xs] w' ∧ k ≤ xs.length ∧ x ∉ xs.take k) (fun k => xs.length - k) 0 ⟨H, by simp⟩ (rfl) ?_
  rintro k w2 ⟨H, hinv0⟩ hback1
  refine WK.run 3 [0, 1, 7, 8, 9] [.code (cd Try.prog 91 [1, 0, 1, 0, 0, 1, 0]), .code (cd Try.prog 91 [1, 0, 1, 0, 0, 2]), .inLoop (cd Try.prog 91 [1, 0, 1, 0, 0]), .inBlock 0, .code (cd Try.prog 91 [2])] [(0, .slice a xs.length c), (1, .int .i64 x), (7, .int .i64 ((xs.length : Nat) : Int)), (8, .int .i64 (k : Int)), (9, .bool (decide (((k : Int) : Int) < ((xs.length : Nat) : Int))))] (by as_aux_lemma => kernel_rfl) ?_
  refine WK.cond1 (decide (((k : Int) : Int) < ((xs.length : Nat) : Int))) (by as_aux_lemma => kernel_rfl) (by as_aux_lemma => kernel_rfl) (fun h3 => ?_) (fun h3 => ?_)
  · skip
    replace h3 := of_decide_eq_true h3
    refine WK.run 6 [0, 1, 5, 7, 8] [.code (cd Try.prog 91 [1, 0, 1, 0, 0, 2, 0, 0, 1, 0]), .code (cd Try.prog 91 [1, 0, 1, 0, 0, 2, 0, 0, 2]), .inBlock 1, .code (cd Try.prog 91 [1, 0, 1, 0, 0, 3]), .inLoop (cd Try.prog 91 [1, 0, 1, 0, 0]), .inBlock 0, .code (cd Try.prog 91 [2])] [(0, .slice a xs.length c), (1, .int .i64 x), (5, .int .i64 (k : Int)), (7, .int .i64 ((xs.length : Nat) : Int)), (8, .int .i64 (k : Int))] (by as_aux_lemma => kernel_rfl) ?_
    refine WK.reg1 (l := sq 0 6) (by as_aux_lemma => kernel_rfl) (by as_aux_lemma => kernel_rfl) ?_
    refine RW.runP 3 [0, 1, 5, 7, 8, 11, 12, 13] (sq 3 6) [(0, .slice a xs.length c), (1, .int .i64 x), (5, .int .i64 (k : Int)), (7, .int .i64 ((xs.length : Nat) : Int)), (8, .int .i64 (k : Int)), (11, .int .i64 x), (12, .slice a xs.length c), (13, .int .i64 (k : Int))] (by as_aux_lemma => kernel_rfl) (by as_aux_lemma => kernel_rfl) ?_
    have hx4 : k < xs.length := by omega
    refine RW.index (κ := .seq) (d := some 14) (r := (sq 4 6)) (T := 25) (e := 3) (ik := .i64) (ix := (k : Int)) (sh := (Shape.int .i64)) (x := xs[k]) (by as_aux_lemma => kernel_rfl) (by as_aux_lemma => kernel_rfl) H 0 rfl k (by omega) (List.getElem?_eq_getElem hx4) ?_
    intro b5 o6 es7 hr8 H
    have hb9 := Shape.i64_bd hr8
    obtain ⟨rfl, -⟩ := hr8
    refine RW.load (κ := .seq) (d := some 15) (r := (sq 5 6)) (T := 3) (b := b5) (o' := o6) (k := 0) (v := .int .i64 (xs[k])) (by as_aux_lemma => kernel_rfl) (H.fc 0 rfl) rfl (by as_aux_lemma => kernel_rfl) ?_
    refine RW.fin 1 [0, 1, 5, 7, 8, 16] [(0, .slice a xs.length c), (1, .int .i64 x), (5, .int .i64 (k : Int)), (7, .int .i64 ((xs.length : Nat) : Int)), (8, .int .i64 (k : Int)), (16, .bool (x == (xs[k])))] (by as_aux_lemma => kernel_rfl) ?_
    refine WK.cond1 (x == (xs[k])) (by as_aux_lemma => kernel_rfl) (by as_aux_lemma => kernel_rfl) (fun h10 => ?_) (fun h10 => ?_)
    · skip
      replace h10 := eq_of_beq h10
      refine WK.run 2 [4] [.code (cd Try.prog 91 [1, 0, 1, 0, 0, 2, 0, 0, 2, 0, 1]), .inBlock 1, .code (cd Try.prog 91 [1, 0, 1, 0, 0, 3]), .inLoop (cd Try.prog 91 [1, 0, 1, 0, 0]), .inBlock 0, .code (cd Try.prog 91 [2])] [(4, .int .i64 (k : Int))] (by as_aux_lemma => kernel_rfl) ?_
      refine WK.ret (v := .int .i64 (k : Int)) Try.func91 (by as_aux_lemma => kernel_rfl) (by as_aux_lemma => kernel_rfl) ?_
      exact ⟨_, rfl, H.done, _, rfl, fun _ => by subst_vars; exact List.getElem_mem _, fun _ => by omega⟩
    · skip
      replace h10 := ne_of_beq_false h10
      refine WK.run 2 [0, 1, 7, 8] [.code (cd Try.prog 91 [1, 0, 1, 0, 0, 3]), .inLoop (cd Try.prog 91 [1, 0, 1, 0, 0]), .inBlock 0, .code (cd Try.prog 91 [2])] [(0, .slice a xs.length c), (1, .int .i64 x), (7, .int .i64 ((xs.length : Nat) : Int)), (8, .int .i64 (k : Int))] (by as_aux_lemma => kernel_rfl) ?_
      refine WK.reg1 (l := sq 0 2) (by as_aux_lemma => kernel_rfl) (by as_aux_lemma => kernel_rfl) ?_
      refine RW.wr64 (κ := .seq) (d := some 18) (r := (sq 1 2)) (t := (k : Int) + 1) (by as_aux_lemma => kernel_rfl) (by omega) ?_
      refine RW.fin 1 [0, 1, 7, 8] [(0, .slice a xs.length c), (1, .int .i64 x), (7, .int .i64 ((xs.length : Nat) : Int)), (8, .int .i64 ((k : Int) + 1))] (by as_aux_lemma => kernel_rfl) ?_
      have H := H.pick [1] (G' := [Rp (Shape.slice (Shape.int .i64)) [.slice a xs.length c] xs]) rfl
      exact WK.back (hback1 (k + 1) _ ⟨H, by omega, fun hm => by rcases (take_succ_mem (by omega)).1 hm with hm | hm; exact hinv0.2 hm; exact absurd hm (by assumption)⟩ (by first | omega | (simp only []; omega))) (by as_aux_lemma => kernel_rfl)
  · skip
    replace h3 := of_decide_eq_false h3
    refine WK.run 3 [4] [.code (cd Try.prog 91 [3])] [(4, .int .i64 (-1))] (by as_aux_lemma => kernel_rfl) ?_
    refine WK.ret (v := .int .i64 (-1)) Try.func91 (by as_aux_lemma => kernel_rfl) (by as_aux_lemma => kernel_rfl) ?_
    exact ⟨_, rfl, H.done, _, rfl, fun h => absurd h (by omega), fun h => absurd (by rw [List.take_of_length_le (by omega)]; exact h) hinv0.2⟩

theorem contains_spec {S : Nat → Prop} {w : World} {xs : List Int} {a : Option Addr} {c : Nat} (x : Int) (h : (Shape.slice (.int .i64)).rep S w [.slice a xs.length c] xs) :
    Calls Try.prog 61 #[.slice a xs.length c, .int .i64 x] w (Ret fun v w' => Ext w w' ∧ v = .bool (decide (x ∈ xs))) := by
  refine WK.calls1 (fn := Try.f61) (n := 9) (σ := [(0, .slice a xs.length c), (1, .int .i64 x)]) Try.func61 rfl (by as_aux_lemma => kernel_rfl) (by as_aux_lemma => kernel_rfl) (by as_aux_lemma => kernel_rfl) ?_
  have H := Hp.startF (w := w) (S := S) (G := [Rp (Shape.slice (Shape.int .i64)) [.slice a xs.length c] xs]) (.rp h .nil)
  refine WK.run 3 [0, 1] [.code (cd Try.prog 61 [1, 0]), .code (cd Try.prog 61 [2])] [(0, .slice a xs.length c), (1, .int .i64 x)] (by as_aux_lemma => kernel_rfl) ?_
  refine WK.reg1 (l := sq 0 5) (by as_aux_lemma => kernel_rfl) (by as_aux_lemma => kernel_rfl) ?_
  refine RW.runP 2 [5, 6] (sq 2 5) [(5, .slice a xs.length c), (6, .int .i64 x)] (by as_aux_lemma => kernel_rfl) (by as_aux_lemma => kernel_rfl) ?_
  refine RW.call (κ := .seq) (d := some 7) (r := (sq 3 5)) (g := 91) (args := #[.slice a xs.length c, .int .i64 x]) (by as_aux_lemma => kernel_rfl) (nofun) (index_spec x (H.rp 0 rfl)) ?_
  rintro _ w1 hE ⟨ix, rfl, hix⟩
  have H := H.ext hE
  refine RW.fin 2 [4] [(4, .bool (decide ((ix : Int) ≥ 0)))] (by as_aux_lemma => kernel_rfl) ?_
  refine WK.ret (v := .bool (decide ((ix : Int) ≥ 0))) Try.func61 (by as_aux_lemma => kernel_rfl) (by as_aux_lemma => kernel_rfl) ?_
  refine ⟨_, rfl, H.done, ?_⟩
  congr 1
  exact decide_eq_decide.2 hix

theorem clone_nil {S : Nat → Prop} {w : World} {xs : List Int} {c : Nat} (h : (Shape.slice (Shape.int .i64)).rep S w [.slice none xs.length c] xs) (hby : xs.length * 8 ≤ 140737488355328) :
    Calls Try.prog 56 #[.slice none xs.length c] w (Ret fun v w' => Ext w w' ∧ Hp w S [] [] [⟨Shape.int .i64, 3, v, xs⟩] [] w') := by
  have hx := Shape.slice_none h
  refine WK.calls1 (fn := Try.f56) (n := 8) (σ := [(0, .slice none xs.length c)]) Try.func56 rfl (by as_aux_lemma => kernel_rfl) (by as_aux_lemma => kernel_rfl) (by as_aux_lemma => kernel_rfl) ?_
  have H := Hp.startF (w := w) (S := S) (G := [Rp (Shape.slice (Shape.int .i64)) [.slice none xs.length c] xs]) (.rp h .nil)
  refine WK.run 8 [2] [.code (cd Try.prog 56 [1, 0, 1, 0, 1]), .code (cd Try.prog 56 [2])] [(2, .slice none 0 0)] (by as_aux_lemma => kernel_rfl) ?_
  refine WK.ret (v := .slice none 0 0) Try.func56 (by as_aux_lemma => kernel_rfl) (by as_aux_lemma => kernel_rfl) ?_
  subst hx
  exact ⟨_, rfl, H.done, (H.pick [] rfl).ownNil (Shape.int .i64) 3⟩

theorem clone_some {S : Nat → Prop} {w : World} {xs : List Int} {a : Addr} {c : Nat} (h : (Shape.slice (Shape.int .i64)).rep S w [.slice (some a) xs.length c] xs) (hby : xs.length * 8 ≤ 140737488355328) :
    Calls Try.prog 56 #[.slice (some a) xs.length c] w (Ret fun v w' => Ext w w' ∧ Hp w S [] [] [⟨Shape.int .i64, 3, v, xs⟩] [] w') := by
  refine WK.calls1 (fn := Try.f56) (n := 8) (σ := [(0, .slice (some a) xs.length c)]) Try.func56 rfl (by as_aux_lemma => kernel_rfl) (by as_aux_lemma => kernel_rfl) (by as_aux_lemma => kernel_rfl) ?_
  have H := Hp.startF (w := w) (S := S) (G := [Rp (Shape.slice (Shape.int .i64)) [.slice (some a) xs.length c] xs]) (.rp h .nil)
  refine WK.run 8 [0] [.code (cd Try.prog 56 [2, 0]), .code (cd Try.prog 56 [3])] [(0, .slice (some a) xs.length c)] (by as_aux_lemma => kernel_rfl) ?_
  refine WK.reg1 (l := sq 0 4) (by as_aux_lemma => kernel_rfl) (by as_aux_lemma => kernel_rfl) ?_
  refine RW.new (κ := .seq) (d := some 5) (r := (sq 1 4)) (o := .cells #[] 3 (0, 0)) (v := fun b => .slice (some ⟨b, 0, none⟩) 0 0) (fun b => by as_aux_lemma => kernel_rfl) (nofun) H ?_
  intro b1 w2 H
  refine RW.runP 1 [5, 6] (sq 2 4) [(5, .slice (some ⟨b1, 0, none⟩) 0 0), (6, .slice (some a) xs.length c)] (by as_aux_lemma => kernel_rfl) (by as_aux_lemma => kernel_rfl) ?_
  have H := H.toOwn (sh := Shape.int .i64) (xs := []) (cap := 0) (by rfl) (Nat.le_refl _) (Nat.zero_le _) (by simp) EsP.nil
  have H : Hp w S [] [] [⟨Shape.int .i64, 3, .slice (some ⟨b1, 0, none⟩) 0 0, []⟩] [Rp (Shape.slice (Shape.int .i64)) [.slice (some a) xs.length c] xs] _ := H
  refine RW.appendW (d := some 7) (r := (sq 3 4)) (T := 25) (ty := 25) (e := 3) (m := 1) (by_ := 8) (v := .slice (some ⟨b1, 0, none⟩) 0 0) (a2 := (some a)) (l2 := xs.length) (c2 := c) (zs := xs) (by as_aux_lemma => kernel_rfl) (by as_aux_lemma => kernel_rfl) rfl H 0 rfl 0 rfl (rfl) (by omega) ?_
  intro a3 c4 w6 H hc5
  have H : Hp w S [] [] [⟨Shape.int .i64, 3, .slice a3 xs.length c4, xs⟩] [Rp (Shape.slice (Shape.int .i64)) [.slice (some a) xs.length c] xs] _ := H
  refine RW.fin 1 [2] [(2, .slice a3 xs.length c4)] (by as_aux_lemma => kernel_rfl) ?_
  refine WK.ret (v := .slice a3 xs.length c4) Try.func56 (by as_aux_lemma => kernel_rfl) (by as_aux_lemma => kernel_rfl) ?_
  exact ⟨_, rfl, H.done, H.pick [] rfl⟩

theorem clone_spec {S : Nat → Prop} {w : World} {xs : List Int} {a : Option Addr} {c : Nat} (h : (Shape.slice (Shape.int .i64)).rep S w [.slice a xs.length c] xs) (hby : xs.length * 8 ≤ 140737488355328) :
    Calls Try.prog 56 #[.slice a xs.length c] w (Ret fun v w' => Ext w w' ∧ Hp w S [] [] [⟨Shape.int .i64, 3, v, xs⟩] [] w') := by
  cases a with
  | none => exact clone_nil h hby
  | some a => exact clone_some h hby

theorem bclone_nil {S : Nat → Prop} {w : World} {xs : List (BitVec 8)} {c : Nat} (h : (Shape.slice (Shape.bv .u8 8)).rep S w [.slice none xs.length c] xs) (hby : xs.length * 1 ≤ 140737488355328) :
    Calls Try.prog 83 #[.slice none xs.length c] w (Ret fun v w' => Ext w w' ∧ Hp w S [] [] [⟨Shape.bv .u8 8, 5, v, xs⟩] [] w') := by
  have hx := Shape.slice_none h
  refine WK.calls1 (fn := Try.f83) (n := 8) (σ := [(0, .slice none xs.length c)]) Try.func83 rfl (by as_aux_lemma => kernel_rfl) (by as_aux_lemma => kernel_rfl) (by as_aux_lemma => kernel_rfl) ?_
  have H := Hp.startF (w := w) (S := S) (G := [Rp (Shape.slice (Shape.bv .u8 8)) [.slice none xs.length c] xs]) (.rp h .nil)
  refine WK.run 8 [2] [.code (cd Try.prog 83 [1, 0, 1, 0, 1]), .code (cd Try.prog 83 [2])] [(2, .slice none 0 0)] (by as_aux_lemma => kernel_rfl) ?_
  refine WK.ret (v := .slice none 0 0) Try.func83 (by as_aux_lemma => kernel_rfl) (by as_aux_lemma => kernel_rfl) ?_
  subst hx
  exact ⟨_, rfl, H.done, (H.pick [] rfl).ownNil (Shape.bv .u8 8) 5⟩

theorem bclone_some {S : Nat → Prop} {w : World} {xs : List (BitVec 8)} {a : Addr} {c : Nat} (h : (Shape.slice (Shape.bv .u8 8)).rep S w [.slice (some a) xs.length c] xs) (hby : xs.length * 1 ≤ 140737488355328) :
    Calls Try.prog 83 #[.slice (some a) xs.length c] w (Ret fun v w' => Ext w w' ∧ Hp w S [] [] [⟨Shape.bv .u8 8, 5, v, xs⟩] [] w') := by
  refine WK.calls1 (fn := Try.f83) (n := 8) (σ := [(0, .slice (some a) xs.length c)]) Try.func83 rfl (by as_aux_lemma => kernel_rfl) (by as_aux_lemma => kernel_rfl) (by as_aux_lemma => kernel_rfl) ?_
  have H := Hp.startF (w := w) (S := S) (G := [Rp (Shape.slice (Shape.bv .u8 8)) [.slice (some a) xs.length c] xs]) (.rp h .nil)
  refine WK.run 8 [0] [.code (cd Try.prog 83 [2, 0]), .code (cd Try.prog 83 [3])] [(0, .slice (some a) xs.length c)] (by as_aux_lemma => kernel_rfl) ?_
  refine WK.reg1 (l := sq 0 4) (by as_aux_lemma => kernel_rfl) (by as_aux_lemma => kernel_rfl) ?_
  refine RW.new (κ := .seq) (d := some 5) (r := (sq 1 4)) (o := .cells #[] 5 (0, 0)) (v := fun b => .slice (some ⟨b, 0, none⟩) 0 0) (fun b => by as_aux_lemma => kernel_rfl) (nofun) H ?_
  intro b1 w2 H
  refine RW.runP 1 [5, 6] (sq 2 4) [(5, .slice (some ⟨b1, 0, none⟩) 0 0), (6, .slice (some a) xs.length c)] (by as_aux_lemma => kernel_rfl) (by as_aux_lemma => kernel_rfl) ?_
  have H := H.toOwn (sh := Shape.bv .u8 8) (xs := []) (cap := 0) (by rfl) (Nat.le_refl _) (Nat.zero_le _) (by simp) EsP.nil
  have H : Hp w S [] [] [⟨Shape.bv .u8 8, 5, .slice (some ⟨b1, 0, none⟩) 0 0, []⟩] [Rp (Shape.slice (Shape.bv .u8 8)) [.slice (some a) xs.length c] xs] _ := H
  refine RW.appendW (d := some 7) (r := (sq 3 4)) (T := 23) (ty := 23) (e := 5) (m := 1) (by_ := 1) (v := .slice (some ⟨b1, 0, none⟩) 0 0) (a2 := (some a)) (l2 := xs.length) (c2 := c) (zs := xs) (by as_aux_lemma => kernel_rfl) (by as_aux_lemma => kernel_rfl) rfl H 0 rfl 0 rfl (rfl) (by omega) ?_
  intro a3 c4 w6 H hc5
  have H : Hp w S [] [] [⟨Shape.bv .u8 8, 5, .slice a3 xs.length c4, xs⟩] [Rp (Shape.slice (Shape.bv .u8 8)) [.slice (some a) xs.length c] xs] _ := H
  refine RW.fin 1 [2] [(2, .slice a3 xs.length c4)] (by as_aux_lemma => kernel_rfl) ?_
  refine WK.ret (v := .slice a3 xs.length c4) Try.func83 (by as_aux_lemma => kernel_rfl) (by as_aux_lemma => kernel_rfl) ?_
  exact ⟨_, rfl, H.done, H.pick [] rfl⟩

theorem bclone_spec {S : Nat → Prop} {w : World} {xs : List (BitVec 8)} {a : Option Addr} {c : Nat} (h : (Shape.slice (Shape.bv .u8 8)).rep S w [.slice a xs.length c] xs) (hby : xs.length * 1 ≤ 140737488355328) :
    Calls Try.prog 83 #[.slice a xs.length c] w (Ret fun v w' => Ext w w' ∧ Hp w S [] [] [⟨Shape.bv .u8 8, 5, v, xs⟩] [] w') := by
  cases a with
  | none => exact bclone_nil h hby
  | some a => exact bclone_some h hby

def rightW (W : Wr) : Bool := decide (W.heads.length = W.chunks.length ∧ W.heads.length = W.nodes.length)

theorem right_spec {S : Nat → Prop} {w : World} {W : Wr} {cs : List Value} (hW : wrS.rep S w cs W) :
    Calls Try.prog 60 #[.agg cs.toArray] w (Ret fun v w' => Ext w w' ∧ v = .bool (rightW W)) := by
  obtain ⟨a3W, k3W, a4W, k4W, a5W, k5W, a6W, k6W, rfl, h0W, h1W, h2W, h3W, h4W, h5W, h6W, h7W, h8W, h9W⟩ := wr_open hW
  refine WK.calls1 (fn := Try.f60) (n := 19) (σ := [(0, .agg (wrV W a3W k3W a4W k4W a5W k5W a6W k6W).toArray)]) Try.func60 rfl (by as_aux_lemma => kernel_rfl) (by as_aux_lemma => kernel_rfl) (by as_aux_lemma => kernel_rfl) ?_
  have H := Hp.startF (w := w) (S := S) (G := [Rp (Shape.slice hdrS) [.slice a3W W.heads.length k3W] W.heads, Rp (Shape.slice (Shape.slice (Shape.bv .u8 8))) [.slice a4W W.chunks.length k4W] W.chunks, Rp (Shape.slice (Shape.int .i64)) [.slice a5W W.nodes.length k5W] W.nodes, Rp (Shape.slice (Shape.int .i64)) [.slice a6W W.acks.length k6W] W.acks]) (.rp h3W (.rp h4W (.rp h5W (.rp h6W .nil))))
  refine WK.run 1 [0] [.code (cd Try.prog 60 [0]), .code (cd Try.prog 60 [1])] [(0, .agg (wrV W a3W k3W a4W k4W a5W k5W a6W k6W).toArray)] (by as_aux_lemma => kernel_rfl) ?_
  refine WK.reg1 (l := sq 0 2) (by as_aux_lemma => kernel_rfl) (by as_aux_lemma => kernel_rfl) ?_
  refine RW.new (κ := .seq) (d := some 1) (r := (sq 1 2)) (o := .cells (wrV W a3W k3W a4W k4W a5W k5W a6W k6W).toArray 32 (0, 0)) (v := fun b => .pointer (some ⟨b, 0, none⟩)) (fun b => by as_aux_lemma => kernel_rfl) (nofun) H ?_
  intro b1 w2 H
  refine RW.fin 1 [1] [(1, .pointer (some ⟨b1, 0, none⟩))] (by as_aux_lemma => kernel_rfl) ?_
  refine WK.run 1 [1] [.code (cd Try.prog 60 [1, 0]), .code (cd Try.prog 60 [2])] [(1, .pointer (some ⟨b1, 0, none⟩))] (by as_aux_lemma => kernel_rfl) ?_
  refine WK.reg1 (l := sq 0 17) (by as_aux_lemma => kernel_rfl) (by as_aux_lemma => kernel_rfl) ?_
  refine RW.runP 1 [1, 3] (sq 1 17) [(1, .pointer (some ⟨b1, 0, none⟩)), (3, .pointer (some ⟨b1, 3, none⟩))] (by as_aux_lemma => kernel_rfl) (by as_aux_lemma => kernel_rfl) ?_
  refine RW.load (κ := .seq) (d := some 4) (r := (sq 2 17)) (T := 28) (b := b1) (o' := 3) (k := 3) (v := .slice a3W W.heads.length k3W) (by as_aux_lemma => kernel_rfl) (H.cells 0 rfl) rfl (by as_aux_lemma => kernel_rfl) ?_
  refine RW.runP 2 [1, 5, 6] (sq 4 17) [(1, .pointer (some ⟨b1, 0, none⟩)), (5, .int .i64 ((W.heads.length : Nat) : Int)), (6, .pointer (some ⟨b1, 4, none⟩))] (by as_aux_lemma => kernel_rfl) (by as_aux_lemma => kernel_rfl) ?_
  refine RW.load (κ := .seq) (d := some 7) (r := (sq 5 17)) (T := 29) (b := b1) (o' := 4) (k := 4) (v := .slice a4W W.chunks.length k4W) (by as_aux_lemma => kernel_rfl) (H.cells 0 rfl) rfl (by as_aux_lemma => kernel_rfl) ?_
  refine RW.runP 3 [1, 10] (sq 8 17) [(1, .pointer (some ⟨b1, 0, none⟩)), (10, .bool (((W.heads.length : Nat) : Int) == ((W.chunks.length : Nat) : Int)))] (by as_aux_lemma => kernel_rfl) (by as_aux_lemma => kernel_rfl) ?_
  refine RW.test (fun b_ => [(1, .pointer (some ⟨b1, 0, none⟩)), (10, .bool b_)]) (((W.heads.length : Nat) : Int) == ((W.chunks.length : Nat) : Int)) (fun h3 => ?_) (fun h3 => ?_)
  · skip
    replace h3 := eq_of_beq h3
    refine RW.runP 1 [1, 10, 11] (sq 9 17) [(1, .pointer (some ⟨b1, 0, none⟩)), (10, .bool true), (11, .pointer (some ⟨b1, 3, none⟩))] (by as_aux_lemma => kernel_rfl) (by as_aux_lemma => kernel_rfl) ?_
    refine RW.load (κ := .seq) (d := some 12) (r := (sq 10 17)) (T := 28) (b := b1) (o' := 3) (k := 3) (v := .slice a3W W.heads.length k3W) (by as_aux_lemma => kernel_rfl) (H.cells 0 rfl) rfl (by as_aux_lemma => kernel_rfl) ?_
    refine RW.runP 2 [10, 13, 14] (sq 12 17) [(10, .bool true), (13, .int .i64 ((W.heads.length : Nat) : Int)), (14, .pointer (some ⟨b1, 5, none⟩))] (by as_aux_lemma => kernel_rfl) (by as_aux_lemma => kernel_rfl) ?_
    refine RW.load (κ := .seq) (d := some 15) (r := (sq 13 17)) (T := 25) (b := b1) (o' := 5) (k := 5) (v := .slice a5W W.nodes.length k5W) (by as_aux_lemma => kernel_rfl) (H.cells 0 rfl) rfl (by as_aux_lemma => kernel_rfl) ?_
    refine RW.fin 4 [2] [(2, .bool (((W.heads.length : Nat) : Int) == ((W.nodes.length : Nat) : Int)))] (by as_aux_lemma => kernel_rfl) ?_
    refine WK.ret (v := .bool (((W.heads.length : Nat) : Int) == ((W.nodes.length : Nat) : Int))) Try.func60 (by as_aux_lemma => kernel_rfl) (by as_aux_lemma => kernel_rfl) ?_
    refine ⟨_, rfl, H.done, ?_⟩
    congr 1
    unfold rightW
    rw [Bool.eq_iff_iff]
    simp
    omega
  · skip
    replace h3 := ne_of_beq_false h3
    refine RW.fin 9 [2] [(2, .bool false)] (by as_aux_lemma => kernel_rfl) ?_
    refine WK.ret (v := .bool false) Try.func60 (by as_aux_lemma => kernel_rfl) (by as_aux_lemma => kernel_rfl) ?_
    refine ⟨_, rfl, H.done, ?_⟩
    congr 1
    unfold rightW
    exact (decide_eq_false (by omega)).symm

theorem prep1_spec {S : Nat → Prop} {w : World} {W : Wr} {cs : List Value} (hW : wrS.rep S w cs W) {bw : Nat} (hF : (Fc bw 0 cs).p S w) (i : Int) :
    Calls Try.prog 88 #[.int .i64 i, .pointer (some ⟨bw, 0, none⟩)] w (Ret fun v w' => Ext w w' ∧ v = .bool (!decide (i ∈ W.acks))) := by
  obtain ⟨a3W, k3W, a4W, k4W, a5W, k5W, a6W, k6W, rfl, h0W, h1W, h2W, h3W, h4W, h5W, h6W, h7W, h8W, h9W⟩ := wr_open hW
  refine WK.calls1 (fn := Try.f88) (n := 9) (σ := [(0, .int .i64 i), (1, .pointer (some ⟨bw, 0, none⟩))]) Try.func88 rfl (by as_aux_lemma => kernel_rfl) (by as_aux_lemma => kernel_rfl) (by as_aux_lemma => kernel_rfl) ?_
  have H := Hp.startF (w := w) (S := S) (G := [Fc bw 0 (wrV W a3W k3W a4W k4W a5W k5W a6W k6W), Rp (Shape.slice (Shape.int .i64)) [.slice a6W W.acks.length k6W] W.acks]) (.cons hF (.rp h6W .nil))
  refine WK.run 3 [0, 1] [.code (cd Try.prog 88 [1, 0]), .code (cd Try.prog 88 [2])] [(0, .int .i64 i), (1, .pointer (some ⟨bw, 0, none⟩))] (by as_aux_lemma => kernel_rfl) ?_
  refine WK.reg1 (l := sq 0 6) (by as_aux_lemma => kernel_rfl) (by as_aux_lemma => kernel_rfl) ?_
  refine RW.runP 1 [0, 4] (sq 1 6) [(0, .int .i64 i), (4, .pointer (some ⟨bw, 6, none⟩))] (by as_aux_lemma => kernel_rfl) (by as_aux_lemma => kernel_rfl) ?_
  refine RW.load (κ := .seq) (d := some 5) (r := (sq 2 6)) (T := 25) (b := bw) (o' := 6) (k := 6) (v := .slice a6W W.acks.length k6W) (by as_aux_lemma => kernel_rfl) (H.fc 0 rfl) rfl (by as_aux_lemma => kernel_rfl) ?_
  refine RW.runP 1 [5, 6] (sq 3 6) [(5, .slice a6W W.acks.length k6W), (6, .int .i64 i)] (by as_aux_lemma => kernel_rfl) (by as_aux_lemma => kernel_rfl) ?_
  refine RW.call (κ := .seq) (d := some 7) (r := (sq 4 6)) (g := 61) (args := #[.slice a6W W.acks.length k6W, .int .i64 i]) (by as_aux_lemma => kernel_rfl) (nofun) (contains_spec i (H.rp 1 rfl)) ?_
  rintro _ w1 hE2 rfl
  have H := H.ext hE2
  refine RW.fin 2 [3] [(3, .bool (!(decide (i ∈ W.acks))))] (by as_aux_lemma => kernel_rfl) ?_
  refine WK.ret (v := .bool (!(decide (i ∈ W.acks)))) Try.func88 (by as_aux_lemma => kernel_rfl) (by as_aux_lemma => kernel_rfl) ?_
  exact ⟨_, rfl, H.done, rfl⟩

theorem prep2_spec {S : Nat → Prop} {w : World} {W : Wr} {cs : List Value} (hW : wrS.rep S w cs W) {bw : Nat} (hF : (Fc bw 0 cs).p S w) (i : Nat) (hi : i < W.chunks.length) (hby : (W.chunks[i]).length ≤ 140737488355328) :
    Calls Try.prog 89 #[.int .i64 (i : Int), .pointer (some ⟨bw, 0, none⟩)] w (Ret fun v w' => Ext w w' ∧ ∃ (a : Option Addr) (c : Nat), v = .agg #[.int .i64 9, .int .i64 0, .int .i64 0, .int .u64 0, .int .u64 0, .int .u64 0, .int .u64 0, .int .u64 0, .bool false, .bool false, .slice none 0 0, .slice none 0 0, .slice none 0 0, .int .u64 0, .int .i64 0, .int .u64 0, .int .i64 0, .int .i64 0, .int .i64 0, .int .u32 0, .slice a ((W.chunks[i]).length) c, .int .u64 0, .int .u64 0, .int .i64 0, .string (⟨#[]⟩), .int .i64 0, .slice none 0 0] ∧ Hp w S [] [] [⟨Shape.bv .u8 8, 5, .slice a (W.chunks[i]).length c, W.chunks[i]⟩] [] w') := by
  obtain ⟨a3W, k3W, a4W, k4W, a5W, k5W, a6W, k6W, rfl, h0W, h1W, h2W, h3W, h4W, h5W, h6W, h7W, h8W, h9W⟩ := wr_open hW
  refine WK.calls1 (fn := Try.f89) (n := 11) (σ := [(0, .int .i64 (i : Int)), (1, .pointer (some ⟨bw, 0, none⟩))]) Try.func89 rfl (by as_aux_lemma => kernel_rfl) (by as_aux_lemma => kernel_rfl) (by as_aux_lemma => kernel_rfl) ?_
  have H := Hp.startF (w := w) (S := S) (G := [Fc bw 0 (wrV W a3W k3W a4W k4W a5W k5W a6W k6W), Rp (Shape.slice (Shape.slice (Shape.bv .u8 8))) [.slice a4W W.chunks.length k4W] W.chunks]) (.cons hF (.rp h4W .nil))
  refine WK.run 1 [0, 1] [.code (cd Try.prog 89 [0]), .code (cd Try.prog 89 [1])] [(0, .int .i64 (i : Int)), (1, .pointer (some ⟨bw, 0, none⟩))] (by as_aux_lemma => kernel_rfl) ?_
  refine WK.reg1 (l := sq 0 1) (by as_aux_lemma => kernel_rfl) (by as_aux_lemma => kernel_rfl) ?_
  refine RW.new (κ := .seq) (d := some 3) (r := (sq 1 1)) (o := .cells (msgZ).toArray 57 (0, 0)) (v := fun b => .pointer (some ⟨b, 0, none⟩)) (fun b => by as_aux_lemma => kernel_rfl) (nofun) H ?_
  intro b1 w2 H
  refine RW.fin 0 [0, 1, 3] [(0, .int .i64 (i : Int)), (1, .pointer (some ⟨bw, 0, none⟩)), (3, .pointer (some ⟨b1, 0, none⟩))] (by as_aux_lemma => kernel_rfl) ?_
  refine WK.run 1 [0, 1, 3] [.code (cd Try.prog 89 [1, 0]), .code (cd Try.prog 89 [2])] [(0, .int .i64 (i : Int)), (1, .pointer (some ⟨bw, 0, none⟩)), (3, .pointer (some ⟨b1, 0, none⟩))] (by as_aux_lemma => kernel_rfl) ?_
  refine WK.reg1 (l := sq 0 8) (by as_aux_lemma => kernel_rfl) (by as_aux_lemma => kernel_rfl) ?_
  refine RW.runP 1 [0, 3, 4] (sq 1 8) [(0, .int .i64 (i : Int)), (3, .pointer (some ⟨b1, 0, none⟩)), (4, .pointer (some ⟨bw, 4, none⟩))] (by as_aux_lemma => kernel_rfl) (by as_aux_lemma => kernel_rfl) ?_
  refine RW.load (κ := .seq) (d := some 5) (r := (sq 2 8)) (T := 29) (b := bw) (o' := 4) (k := 4) (v := .slice a4W W.chunks.length k4W) (by as_aux_lemma => kernel_rfl) (H.fc 0 rfl) rfl (by as_aux_lemma => kernel_rfl) ?_
  refine RW.runP 1 [3, 5, 6] (sq 3 8) [(3, .pointer (some ⟨b1, 0, none⟩)), (5, .slice a4W W.chunks.length k4W), (6, .int .i64 (i : Int))] (by as_aux_lemma => kernel_rfl) (by as_aux_lemma => kernel_rfl) ?_
  have hx3 : i < W.chunks.length := by omega
  refine RW.index (κ := .seq) (d := some 7) (r := (sq 4 8)) (T := 29) (e := 23) (ik := .i64) (ix := (i : Int)) (sh := (Shape.slice (Shape.bv .u8 8))) (x := W.chunks[i]) (by as_aux_lemma => kernel_rfl) (by as_aux_lemma => kernel_rfl) H 1 rfl i (by omega) (List.getElem?_eq_getElem hx3) ?_
  intro b4 o5 es6 hr7 H
  obtain ⟨a8, k9, rfl⟩ := Shape.slice_form' hr7
  have H := H.add (F := Rp (Shape.slice (Shape.bv .u8 8)) [.slice a8 ((W.chunks[i]).length) k9] (W.chunks[i])) hr7
  refine RW.load (κ := .seq) (d := some 8) (r := (sq 5 8)) (T := 23) (b := b4) (o' := o5) (k := 0) (v := .slice a8 ((W.chunks[i]).length) k9) (by as_aux_lemma => kernel_rfl) (H.fc 1 rfl) rfl (by as_aux_lemma => kernel_rfl) ?_
  refine RW.call (κ := .seq) (d := some 9) (r := (sq 6 8)) (g := 83) (args := #[.slice a8 ((W.chunks[i]).length) k9]) (by as_aux_lemma => kernel_rfl) (nofun) (bclone_spec (H.rp 0 rfl) (by omega)) ?_
  rintro v11 w10 - H'
  have H := H.back (M1 := []) (W1 := []) H'
  obtain ⟨a12, c13, rfl, hc14, hm15⟩ := H.ownForm 0 rfl
  have H : Hp w S [] [(b1, .cells (msgZ).toArray 57 (0, 0))] [⟨Shape.bv .u8 8, 5, .slice a12 ((W.chunks[i]).length) c13, W.chunks[i]⟩] [Rp (Shape.slice (Shape.bv .u8 8)) [.slice a8 ((W.chunks[i]).length) k9] (W.chunks[i]), Fc b4 o5 [.slice a8 ((W.chunks[i]).length) k9], Fc bw 0 (wrV W a3W k3W a4W k4W a5W k5W a6W k6W), Rp (Shape.slice (Shape.slice (Shape.bv .u8 8))) [.slice a4W W.chunks.length k4W] W.chunks] _ := H
  refine RW.runP 1 [3, 10] (sq 7 8) [(3, .pointer (some ⟨b1, 0, none⟩)), (10, .agg (((msgZ).set 0 (.int .i64 9)).set 20 (.slice a12 ((W.chunks[i]).length) c13)).toArray)] (by as_aux_lemma => kernel_rfl) (by as_aux_lemma => kernel_rfl) ?_
  refine RW.store (d := none) (r := (sq 8 8)) (T := 57) (b := b1) (k := 0) (v := .agg (((msgZ).set 0 (.int .i64 9)).set 20 (.slice a12 ((W.chunks[i]).length) c13)).toArray) (c' := (((msgZ).set 0 (.int .i64 9)).set 20 (.slice a12 ((W.chunks[i]).length) c13)).toArray) (M' := [(b1, .cells (((msgZ).set 0 (.int .i64 9)).set 20 (.slice a12 ((W.chunks[i]).length) c13)).toArray 57 (0, 0))]) (by as_aux_lemma => kernel_rfl) H 0 rfl (by as_aux_lemma => kernel_rfl) (by as_aux_lemma => kernel_rfl) ?_
  intro w16 H
  refine RW.fin 0 [3] [(3, .pointer (some ⟨b1, 0, none⟩))] (by as_aux_lemma => kernel_rfl) ?_
  refine WK.retBy (v := .agg (((msgZ).set 0 (.int .i64 9)).set 20 (.slice a12 ((W.chunks[i]).length) c13)).toArray) Try.func89 (by as_aux_lemma => kernel_rfl) (RV.res1 (x := .cell 3 57) (by as_aux_lemma => kernel_rfl) (RV.cell (k := 0) (by as_aux_lemma => kernel_rfl) (H.cells 0 rfl) rfl (by as_aux_lemma => kernel_rfl))) ?_
  have H := H.drop (M' := []) (W' := [⟨Shape.bv .u8 8, 5, .slice a12 ((W.chunks[i]).length) c13, W.chunks[i]⟩]) (List.nil_sublist _) (List.Sublist.refl _)
  exact ⟨_, rfl, H.done, _, _, rfl, H.pick [] rfl⟩


end Go.Proofs.Ytppcdmbkgficiaa
