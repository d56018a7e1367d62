import Derived.Test.YtghnicaefbdjfaaRows
import Derived.Test.YtghnicaefbdjfaaBxStr
import Derived.Test.YtghnicaefbdjfaaBxFork
import Derived.Test.YtghnicaefbdjfaaBxDraw
import Derived.Test.YtghnicaefbdjfaaBxBits
import Derived.Test.YtghnicaefbdjfaaBxEq
import Derived.Test.YtghnicaefbdjfaaBxDefer
import Derived.Test.YtghnicaefbdjfaaBxDel
import Derived.Test.YtghnicaefbdjfaaBxBridge
import Derived.Test.YtghnicaefbdjfaaBxReads
namespace Go.Proofs.Ytghnicaefbdjfaa
open Go.BX

theorem Try_mixed : Try.prog.follows .mixedOrders = true := by kernel_rfl

theorem clone_nil {S : Nat → Prop} {w : World} {xs : List Int} {c : Nat} (h : (Shape.slice (Shape.int .i64)).rep S w [.slice none xs.length c] xs) (hby : xs.length * 8 ≤ 140737488355328) :
    Calls Try.prog 25 #[.slice none xs.length c] w (Ret fun v w' => Ext w w' ∧ Hp w S [] [] [⟨Shape.int .i64, 3, v, xs⟩] [] w') := by
  have hx := Shape.slice_none h
  refine WK.calls1 (fn := Try.f25) (n := 8) (σ := [(0, .slice none xs.length c)]) Try.func25 rfl (by as_aux_lemma => kernel_rfl) (by as_aux_lemma => kernel_rfl) (by as_aux_lemma => kernel_rfl) ?_
  have H := Hp.startF (w := w) (S := S) (G := [Rp (Shape.slice (Shape.int .i64)) [.slice none xs.length c] xs]) (.rp h .nil)
  refine WK.run 8 [2] [.code (cd Try.prog 25 [1, 0, 1, 0, 1]), .code (cd Try.prog 25 [2])] [(2, .slice none 0 0)] (by as_aux_lemma => kernel_rfl) ?_
  refine WK.ret (v := .slice none 0 0) Try.func25 (by as_aux_lemma => kernel_rfl) (by as_aux_lemma => kernel_rfl) ?_
  subst hx
  exact ⟨_, rfl, H.done, (H.pick [] rfl).ownNil (Shape.int .i64) 3⟩

theorem clone_some {S : Nat → Prop} {w : World} {xs : List Int} {a : Addr} {c : Nat} (h : (Shape.slice (Shape.int .i64)).rep S w [.slice (some a) xs.length c] xs) (hby : xs.length * 8 ≤ 140737488355328) :
    Calls Try.prog 25 #[.slice (some a) xs.length c] w (Ret fun v w' => Ext w w' ∧ Hp w S [] [] [⟨Shape.int .i64, 3, v, xs⟩] [] w') := by
  refine WK.calls1 (fn := Try.f25) (n := 8) (σ := [(0, .slice (some a) xs.length c)]) Try.func25 rfl (by as_aux_lemma => kernel_rfl) (by as_aux_lemma => kernel_rfl) (by as_aux_lemma => kernel_rfl) ?_
  have H := Hp.startF (w := w) (S := S) (G := [Rp (Shape.slice (Shape.int .i64)) [.slice (some a) xs.length c] xs]) (.rp h .nil)
  refine WK.run 8 [0] [.code (cd Try.prog 25 [2, 0]), .code (cd Try.prog 25 [3])] [(0, .slice (some a) xs.length c)] (by as_aux_lemma => kernel_rfl) ?_
  refine WK.reg1 (l := sq 0 4) (by as_aux_lemma => kernel_rfl) (by as_aux_lemma => kernel_rfl) ?_
  refine RW.new (κ := .seq) (d := some 5) (r := (sq 1 4)) (o := .cells #[] 3 (0, 0)) (v := fun b => .slice (some ⟨b, 0, none⟩) 0 0) (fun b => by as_aux_lemma => kernel_rfl) (nofun) H ?_
  intro b1 w2 H
  refine RW.runP 1 [5, 6] (sq 2 4) [(5, .slice (some ⟨b1, 0, none⟩) 0 0), (6, .slice (some a) xs.length c)] (by as_aux_lemma => kernel_rfl) (by as_aux_lemma => kernel_rfl) ?_
  have H := H.toOwn (sh := Shape.int .i64) (xs := []) (cap := 0) (by rfl) (Nat.le_refl _) (Nat.zero_le _) (by simp) EsP.nil
  have H : Hp w S [] [] [⟨Shape.int .i64, 3, .slice (some ⟨b1, 0, none⟩) 0 0, []⟩] [Rp (Shape.slice (Shape.int .i64)) [.slice (some a) xs.length c] xs] _ := H
  refine RW.appendW (d := some 7) (r := (sq 3 4)) (T := 22) (ty := 22) (e := 3) (m := 1) (by_ := 8) (v := .slice (some ⟨b1, 0, none⟩) 0 0) (a2 := (some a)) (l2 := xs.length) (c2 := c) (zs := xs) (by as_aux_lemma => kernel_rfl) (by as_aux_lemma => kernel_rfl) rfl H 0 rfl 0 rfl (rfl) (by omega) ?_
  intro a3 c4 w6 H hc5
  have H : Hp w S [] [] [⟨Shape.int .i64, 3, .slice a3 xs.length c4, xs⟩] [Rp (Shape.slice (Shape.int .i64)) [.slice (some a) xs.length c] xs] _ := H
  refine RW.fin 1 [2] [(2, .slice a3 xs.length c4)] (by as_aux_lemma => kernel_rfl) ?_
  refine WK.ret (v := .slice a3 xs.length c4) Try.func25 (by as_aux_lemma => kernel_rfl) (by as_aux_lemma => kernel_rfl) ?_
  exact ⟨_, rfl, H.done, H.pick [] rfl⟩

theorem clone_spec {S : Nat → Prop} {w : World} {xs : List Int} {a : Option Addr} {c : Nat} (h : (Shape.slice (Shape.int .i64)).rep S w [.slice a xs.length c] xs) (hby : xs.length * 8 ≤ 140737488355328) :
    Calls Try.prog 25 #[.slice a xs.length c] w (Ret fun v w' => Ext w w' ∧ Hp w S [] [] [⟨Shape.int .i64, 3, v, xs⟩] [] w') := by
  cases a with
  | none => exact clone_nil h hby
  | some a => exact clone_some h hby

theorem delete_spec {S : Nat → Prop} {w : World} {O : List Nat} {xs : List Int} {a : Option Addr} {c i j : Nat} (H0 : Hp w S O [] [⟨Shape.int .i64, 3, .slice a xs.length c, xs⟩] [] w) (hij : i < j) (hj : j ≤ xs.length) :
    Calls Try.prog 24 #[.slice a xs.length c, .int .i64 (i : Int), .int .i64 (j : Int)] w (Ret fun v w' => Hp w S O [] [⟨Shape.int .i64, 3, v, xs.take i ++ xs.drop j⟩] [] w') := by
  obtain ⟨_, _, he, hnc, hcm⟩ := H0.ownForm 0 rfl
  simp only [Value.slice.injEq, true_and] at he
  obtain ⟨rfl, rfl⟩ := he
  refine WK.calls1 (fn := Try.f24) (n := 33) (σ := [(0, .slice a xs.length c), (1, .int .i64 (i : Int)), (2, .int .i64 (j : Int))]) Try.func24 rfl (by as_aux_lemma => kernel_rfl) (by as_aux_lemma => kernel_rfl) (by as_aux_lemma => kernel_rfl) ?_
  have H := H0
  refine WK.run 3 [0, 1, 2] [.code (cd Try.prog 24 [1, 0]), .code (cd Try.prog 24 [2])] [(0, .slice a xs.length c), (1, .int .i64 (i : Int)), (2, .int .i64 (j : Int))] (by as_aux_lemma => kernel_rfl) ?_
  refine WK.reg1 (l := sq 0 6) (by as_aux_lemma => kernel_rfl) (by as_aux_lemma => kernel_rfl) ?_
  refine RW.runP 5 [0, 1, 2, 8, 9, 10, 12] (sq 5 6) [(0, .slice a xs.length c), (1, .int .i64 (i : Int)), (2, .int .i64 (j : Int)), (8, .slice a xs.length c), (9, .int .i64 (i : Int)), (10, .int .i64 (j : Int)), (12, .int .i64 ((xs.length : Nat) : Int))] (by as_aux_lemma => kernel_rfl) (by as_aux_lemma => kernel_rfl) ?_
  refine RW.slice3 (κ := .seq) (d := some 13) (r := (sq 6 6)) (T := 22) (e := 3) (m := 1) (a := a) (len := xs.length) (cap := c) (lo := i) (hi := j) (mx := xs.length) (k1 := .i64) (k2 := .i64) (k3 := .i64) (t1 := (i : Int)) (t2 := (j : Int)) (t3 := ((xs.length : Nat) : Int)) (by as_aux_lemma => kernel_rfl) (by as_aux_lemma => kernel_rfl) rfl rfl rfl (by omega) hj (by omega) ?_
  intro u1
  refine RW.fin 0 [0, 1, 2] [(0, .slice a xs.length c), (1, .int .i64 (i : Int)), (2, .int .i64 (j : Int))] (by as_aux_lemma => kernel_rfl) ?_
  refine WK.run 3 [0, 1, 2, 16] [.code (cd Try.prog 24 [2, 0, 1]), .code (cd Try.prog 24 [3])] [(0, .slice a xs.length c), (1, .int .i64 (i : Int)), (2, .int .i64 (j : Int)), (16, .bool ((i : Int) == (j : Int)))] (by as_aux_lemma => kernel_rfl) ?_
  refine WK.cond1 ((i : Int) == (j : Int)) (by as_aux_lemma => kernel_rfl) (by as_aux_lemma => kernel_rfl) (fun h2 => ?_) (fun h2 => ?_)
  · skip
    replace h2 := eq_of_beq h2
    exact absurd h2 (by omega)
  · skip
    replace h2 := ne_of_beq_false h2
    obtain ⟨b, cc, rfl, -, hcs, hnc, hcm, hone, H⟩ := H.toRaw1 (by omega)
    simp only [maxLen] at hcm
    have hsz : cc.size = c := by rw [hcs]; exact Nat.mul_one c
    have hcl : cc.toList.length = c := by simpa using hsz
    have hone : ∀ v ∈ cc.toList.take (xs.length * 1), v.oneCell' = true := hone
    refine WK.run 4 [0, 1, 2, 7] [.code (cd Try.prog 24 [4, 0]), .code (cd Try.prog 24 [5])] [(0, .slice (some ⟨b, 0, none⟩) xs.length c), (1, .int .i64 (i : Int)), (2, .int .i64 (j : Int)), (7, .int .i64 ((xs.length : Nat) : Int))] (by as_aux_lemma => kernel_rfl) ?_
    refine WK.draw1 6 [(0, .qui), (1, .qui), (2, .qui), (3, .qui), (4, .qui), (5, .qui)] [(0, .qui), (1, .qui), (2, .qui), (3, .qui), (4, .qui), (5, .qui), (6, .seq), (7, .seq)] Try_mixed (by as_aux_lemma => kernel_rfl) (by as_aux_lemma => kernel_rfl) (by as_aux_lemma => kernel_rfl) ?_
    have H := H.draw
    generalize ({ w with drawn := w.drawn + 1 } : World) = w3 at H ⊢
    refine RW.runP 2 [0, 2, 7, 20, 21] [(2, .qui), (3, .qui), (4, .qui), (5, .qui), (6, .seq), (7, .seq)] [(0, .slice (some ⟨b, 0, none⟩) xs.length c), (2, .int .i64 (j : Int)), (7, .int .i64 ((xs.length : Nat) : Int)), (20, .slice (some ⟨b, 0, none⟩) xs.length c), (21, .int .i64 (i : Int))] (by as_aux_lemma => kernel_rfl) (by as_aux_lemma => kernel_rfl) ?_
    refine RW.sliceR (κ := .qui) (d := some 22) (r := [(3, .qui), (4, .qui), (5, .qui), (6, .seq), (7, .seq)]) (T := 22) (e := 3) (m := 1) (b := b) (o := 0) (len := xs.length) (cap := c) (lv := none) (hv := (some (.int .i64 (i : Int)))) (by as_aux_lemma => kernel_rfl) (by as_aux_lemma => kernel_rfl) 0 i .nil (.mk (by omega)) (by omega) (by omega) ?_
    intro o4 ho5
    obtain rfl : o4 = 0 := by have := ho5 (by omega); omega
    refine RW.runP 2 [0, 7, 22, 23, 24] [(5, .qui), (6, .seq), (7, .seq)] [(0, .slice (some ⟨b, 0, none⟩) xs.length c), (7, .int .i64 ((xs.length : Nat) : Int)), (22, .slice (some ⟨b, 0, none⟩) i c), (23, .slice (some ⟨b, 0, none⟩) xs.length c), (24, .int .i64 (j : Int))] (by as_aux_lemma => kernel_rfl) (by as_aux_lemma => kernel_rfl) ?_
    refine RW.sliceR (κ := .qui) (d := some 25) (r := [(6, .seq), (7, .seq)]) (T := 22) (e := 3) (m := 1) (b := b) (o := 0) (len := xs.length) (cap := c) (lv := (some (.int .i64 (j : Int)))) (hv := none) (by as_aux_lemma => kernel_rfl) (by as_aux_lemma => kernel_rfl) j xs.length (.mk (by omega)) .nil (by omega) (by omega) ?_
    intro o6 ho7
    obtain ⟨L1, hL1⟩ : ∃ L : List Value, cc.toList.take (i * 1) ++ (cc.toList.drop j).take (xs.length - j) ++ cc.toList.drop (i * 1 + ((cc.toList.drop j).take (xs.length - j)).length) = L := ⟨_, rfl⟩
    have hnl : ((cc.toList.drop j).take (xs.length - j)).length = (xs.length - j) * 1 := by rw [List.length_take, List.length_drop]; omega
    refine RW.appendR (d := some 26) (r := [(7, .seq)]) (T := 22) (ty := 22) (e := 3) (m := 1) (b := b) (dl := i) (dc := c) (sb := b) (o2 := o6) (sl := (xs.length - j)) (sc := (c - j)) (by as_aux_lemma => kernel_rfl) (by as_aux_lemma => kernel_rfl) H 0 rfl j ((cc.toList.drop j).take (xs.length - j)) hnl (by simpa using (H.cells 0 rfl).sub j (xs.length - j)) (fun v hv => hone v (by rw [show xs.length * 1 = j + (xs.length - j) by omega, List.take_add]; exact List.mem_append_right _ hv)) (fun _ => by have := ho7 (by omega); omega) (by omega) (by rw [hnl]; omega) L1 hL1 ?_
    have hlL : L1.length = c := by rw [← hL1]; simp only [List.length_append, List.length_take, List.length_drop, hnl, hcl]; omega
    intro w8 H
    have H : Hp w S O [(b, .cells L1.toArray 3 (0, 0))] [] [Es (Shape.int .i64) cc.toList xs] _ := H
    refine RW.fin 1 [0, 7] [(0, .slice (some ⟨b, 0, none⟩) (i + (xs.length - j)) c), (7, .int .i64 ((xs.length : Nat) : Int))] (by as_aux_lemma => kernel_rfl) ?_
    refine WK.run 1 [0, 7] [.code (cd Try.prog 24 [5, 0]), .code (cd Try.prog 24 [6])] [(0, .slice (some ⟨b, 0, none⟩) (i + (xs.length - j)) c), (7, .int .i64 ((xs.length : Nat) : Int))] (by as_aux_lemma => kernel_rfl) ?_
    refine WK.reg1 (l := sq 0 6) (by as_aux_lemma => kernel_rfl) (by as_aux_lemma => kernel_rfl) ?_
    refine RW.runP 4 [0, 27, 29, 30] (sq 4 6) [(0, .slice (some ⟨b, 0, none⟩) (i + (xs.length - j)) c), (27, .slice (some ⟨b, 0, none⟩) (i + (xs.length - j)) c), (29, .int .i64 ((i + (xs.length - j) : Nat) : Int)), (30, .int .i64 ((xs.length : Nat) : Int))] (by as_aux_lemma => kernel_rfl) (by as_aux_lemma => kernel_rfl) ?_
    refine RW.sliceR (κ := .seq) (d := some 31) (r := (sq 5 6)) (T := 22) (e := 3) (m := 1) (b := b) (o := 0) (len := (i + (xs.length - j))) (cap := c) (lv := (some (.int .i64 ((i + (xs.length - j) : Nat) : Int)))) (hv := (some (.int .i64 ((xs.length : Nat) : Int)))) (by as_aux_lemma => kernel_rfl) (by as_aux_lemma => kernel_rfl) (i + (xs.length - j)) xs.length (.mk (by omega)) (.mk (by omega)) (by omega) (by omega) ?_
    intro o9 ho10
    obtain rfl : o9 = 0 + (i + (xs.length - j)) * 1 := by have := ho10 (by omega); omega
    refine RW.clearR (d := none) (r := (sq 6 6)) (T := 22) (ty := 0) (e := 3) (m := 1) (b := b) (o1 := 0 + (i + (xs.length - j)) * 1) (l1 := (xs.length - (i + (xs.length - j)))) (c1 := (c - (i + (xs.length - j)))) (by as_aux_lemma => kernel_rfl) (by as_aux_lemma => kernel_rfl) (by as_aux_lemma => kernel_rfl) H 0 rfl (i + (xs.length - j)) (fun _ => by omega) (by rw [List.size_toArray]; omega) ?_
    intro c' w11 hsz' htk H
    have H : Hp w S O [(b, .cells c' 3 (0, 0))] [] [Es (Shape.int .i64) cc.toList xs] _ := H
    refine RW.fin 0 [0] [(0, .slice (some ⟨b, 0, none⟩) (i + (xs.length - j)) c)] (by as_aux_lemma => kernel_rfl) ?_
    refine WK.run 2 [6] [.code (cd Try.prog 24 [7])] [(6, .slice (some ⟨b, 0, none⟩) (i + (xs.length - j)) c)] (by as_aux_lemma => kernel_rfl) ?_
    refine WK.ret (v := .slice (some ⟨b, 0, none⟩) (i + (xs.length - j)) c) Try.func24 (by as_aux_lemma => kernel_rfl) (by as_aux_lemma => kernel_rfl) ?_
    have e1 : c'.toList.take (i + (xs.length - j)) = cc.toList.take i ++ (cc.toList.drop j).take (xs.length - j) := by
      rw [htk, List.toList_toArray, ← hL1, Nat.mul_one]
      refine List.take_left' ?_
      simp only [List.length_append, List.length_take, List.length_drop, hcl]
      omega
    have hE := del_fact (sh := Shape.int .i64) (xs := xs) rfl (H.es 0 rfl) (by omega) (Nat.le_of_lt hij) hj e1
    have hln : (xs.take i ++ xs.drop j).length = i + (xs.length - j) := by simp only [List.length_append, List.length_take, List.length_drop]; omega
    rw [← hln]
    exact ⟨_, rfl, (H.toOwn (sh := Shape.int .i64) (cap := c) (by rw [hsz', List.size_toArray, hlL]; exact (Nat.mul_one _).symm) (by omega) (by unfold maxLen; omega) (fun v hv => by
        rw [hln, show (i + (xs.length - j)) * Shape.size (Shape.int .i64) = i + (xs.length - j) from Nat.mul_one _, e1] at hv
        refine hone v ?_
        rw [show xs.length * 1 = j + (xs.length - j) by omega, List.take_add]
        rcases List.mem_append.1 hv with hv | hv
        · exact List.mem_append_left _ ((List.take_sublist_take_left (Nat.le_of_lt hij)).subset hv)
        · exact List.mem_append_right _ hv) hE).pick [] rfl⟩

def minOf : List Int → Int
  | [] => 0
  | x :: l => l.foldl (fun m y => if y < m then y else m) x

theorem minOf_take (xs : List Int) (i : Nat) (h0 : 0 < i) (h : i < xs.length) : minOf (xs.take (i + 1)) = if xs[i] < minOf (xs.take i) then xs[i] else minOf (xs.take i) := by
  cases xs with
  | nil => simp at h
  | cons x l =>
    obtain ⟨k, rfl⟩ : ∃ k, i = k + 1 := ⟨i - 1, by omega⟩
    have hk : k < l.length := by simpa using h
    have e : l.take (k + 1) = l.take k ++ [l[k]] := by rw [List.take_add_one, List.getElem?_eq_getElem hk]; rfl
    simp only [List.take_succ_cons, minOf, e, List.foldl_append, List.foldl_cons, List.foldl_nil, List.getElem_cons_succ]
    rfl

theorem smin_spec {S : Nat → Prop} {w : World} {xs : List Int} {a : Option Addr} {c : Nat} (h : (Shape.slice (Shape.int .i64)).rep S w [.slice a xs.length c] xs) (h0 : 0 < xs.length) :
    Calls Try.prog 26 #[.slice a xs.length c] w (Ret fun v w' => Ext w w' ∧ v = .int .i64 (minOf xs)) := by
  have hbd := Shape.slice_len h
  refine WK.calls1 (fn := Try.f26) (n := 25) (σ := [(0, .slice a xs.length c)]) Try.func26 rfl (by as_aux_lemma => kernel_rfl) (by as_aux_lemma => kernel_rfl) (by as_aux_lemma => kernel_rfl) ?_
  have H := Hp.startF (w := w) (S := S) (G := [Rp (Shape.slice (Shape.int .i64)) [.slice a xs.length c] xs]) (.rp h .nil)
  refine WK.run 5 [0, 7] [.code (cd Try.prog 26 [1, 0, 1]), .code (cd Try.prog 26 [2])] [(0, .slice a xs.length c), (7, .bool (decide ((((xs.length : Nat) : Int) : Int) < 1)))] (by as_aux_lemma => kernel_rfl) ?_
  refine WK.cond1 (decide ((((xs.length : Nat) : Int) : Int) < 1)) (by as_aux_lemma => kernel_rfl) (by as_aux_lemma => kernel_rfl) (fun h1 => ?_) (fun h1 => ?_)
  · skip
    replace h1 := of_decide_eq_true h1
    omega
  · skip
    replace h1 := of_decide_eq_false h1
    refine WK.run 2 [0] [.code (cd Try.prog 26 [2, 0]), .code (cd Try.prog 26 [3])] [(0, .slice a xs.length c)] (by as_aux_lemma => kernel_rfl) ?_
    refine WK.reg1 (l := sq 0 4) (by as_aux_lemma => kernel_rfl) (by as_aux_lemma => kernel_rfl) ?_
    refine RW.runP 1 [0, 9] (sq 1 4) [(0, .slice a xs.length c), (9, .slice a xs.length c)] (by as_aux_lemma => kernel_rfl) (by as_aux_lemma => kernel_rfl) ?_
    have hx2 : 0 < xs.length := by omega
    refine RW.index (κ := .seq) (d := some 10) (r := (sq 2 4)) (T := 22) (e := 3) (ik := .i64) (ix := 0) (sh := (Shape.int .i64)) (x := xs[0]) (by as_aux_lemma => kernel_rfl) (by as_aux_lemma => kernel_rfl) H 0 rfl 0 (by omega) (List.getElem?_eq_getElem hx2) ?_
    intro b3 o4 es5 hr6 H
    have hb7 := Shape.i64_bd hr6
    obtain ⟨rfl, -⟩ := hr6
    refine RW.load (κ := .seq) (d := some 11) (r := (sq 3 4)) (T := 3) (b := b3) (o' := o4) (k := 0) (v := .int .i64 (xs[0])) (by as_aux_lemma => kernel_rfl) (H.fc 0 rfl) rfl (by as_aux_lemma => kernel_rfl) ?_
    refine RW.fin 1 [0, 3] [(0, .slice a xs.length c), (3, .int .i64 (xs[0]))] (by as_aux_lemma => kernel_rfl) ?_
    refine WK.run 4 [0, 3, 4] [.code (cd Try.prog 26 [3, 0, 1, 0]), .inBlock 0, .code (cd Try.prog 26 [4])] [(0, .slice a xs.length c), (3, .int .i64 (xs[0])), (4, .int .i64 1)] (by as_aux_lemma => kernel_rfl) ?_
    refine WK.loop (α := Nat) (b := cd Try.prog 26 [3, 0, 1, 0, 0]) (by as_aux_lemma => kernel_rfl) (fun i => [(0, .slice a xs.length c), (3, .int .i64 (minOf (xs.take i))), (4, .int .i64 (i : Int))]) (fun i w' => Hp w S [] [] [] [Fc b3 o4 [.int .i64 (xs[0])], Rp (Shape.slice (Shape.int .i64)) [.slice a xs.length c] xs] w' ∧ 0 < i ∧ i ≤ xs.length) (fun i => xs.length - i) 1 ⟨H, by omega, by omega⟩ (by rw [List.take_add_one, List.take_zero, List.getElem?_eq_getElem (by omega)]; rfl) ?_
    rintro i w9 ⟨H, hinv0⟩ hback8
    refine WK.run 3 [0, 3, 4, 15] [.code (cd Try.prog 26 [3, 0, 1, 0, 0, 0, 1]), .code (cd Try.prog 26 [3, 0, 1, 0, 0, 1]), .inLoop (cd Try.prog 26 [3, 0, 1, 0, 0]), .inBlock 0, .code (cd Try.prog 26 [4])] [(0, .slice a xs.length c), (3, .int .i64 (minOf (xs.take i))), (4, .int .i64 (i : Int)), (15, .bool (decide (((i : Int) : Int) < ((xs.length : Nat) : Int))))] (by as_aux_lemma => kernel_rfl) ?_
    refine WK.cond1 (decide (((i : Int) : Int) < ((xs.length : Nat) : Int))) (by as_aux_lemma => kernel_rfl) (by as_aux_lemma => kernel_rfl) (fun h10 => ?_) (fun h10 => ?_)
    · skip
      replace h10 := of_decide_eq_true h10
      refine WK.run 3 [0, 3, 4] [.code (cd Try.prog 26 [3, 0, 1, 0, 0, 1, 0, 0]), .inBlock 1, .code (cd Try.prog 26 [3, 0, 1, 0, 0, 2]), .inLoop (cd Try.prog 26 [3, 0, 1, 0, 0]), .inBlock 0, .code (cd Try.prog 26 [4])] [(0, .slice a xs.length c), (3, .int .i64 (minOf (xs.take i))), (4, .int .i64 (i : Int))] (by as_aux_lemma => kernel_rfl) ?_
      refine WK.reg1 (l := sq 0 7) (by as_aux_lemma => kernel_rfl) (by as_aux_lemma => kernel_rfl) ?_
      refine RW.runP 3 [0, 3, 4, 18, 19, 20] (sq 3 7) [(0, .slice a xs.length c), (3, .int .i64 (minOf (xs.take i))), (4, .int .i64 (i : Int)), (18, .int .i64 (minOf (xs.take i))), (19, .slice a xs.length c), (20, .int .i64 (i : Int))] (by as_aux_lemma => kernel_rfl) (by as_aux_lemma => kernel_rfl) ?_
      have hx11 : i < xs.length := by omega
      refine RW.index (κ := .seq) (d := some 21) (r := (sq 4 7)) (T := 22) (e := 3) (ik := .i64) (ix := (i : Int)) (sh := (Shape.int .i64)) (x := xs[i]) (by as_aux_lemma => kernel_rfl) (by as_aux_lemma => kernel_rfl) H 1 rfl i (by omega) (List.getElem?_eq_getElem hx11) ?_
      intro b12 o13 es14 hr15 H
      have hb16 := Shape.i64_bd hr15
      obtain ⟨rfl, -⟩ := hr15
      refine RW.load (κ := .seq) (d := some 22) (r := (sq 5 7)) (T := 3) (b := b12) (o' := o13) (k := 0) (v := .int .i64 (xs[i])) (by as_aux_lemma => kernel_rfl) (H.fc 0 rfl) rfl (by as_aux_lemma => kernel_rfl) ?_
      refine RW.fin 2 [0, 3, 4] [(0, .slice a xs.length c), (3, .int .i64 (if xs[i] < minOf (xs.take i) then xs[i] else minOf (xs.take i))), (4, .int .i64 (i : Int))] (by as_aux_lemma => kernel_rfl) ?_
      refine WK.run 1 [0, 3, 4] [.code (cd Try.prog 26 [3, 0, 1, 0, 0, 2]), .inLoop (cd Try.prog 26 [3, 0, 1, 0, 0]), .inBlock 0, .code (cd Try.prog 26 [4])] [(0, .slice a xs.length c), (3, .int .i64 (if xs[i] < minOf (xs.take i) then xs[i] else minOf (xs.take i))), (4, .int .i64 (i : Int))] (by as_aux_lemma => kernel_rfl) ?_
      refine WK.reg1 (l := sq 0 3) (by as_aux_lemma => kernel_rfl) (by as_aux_lemma => kernel_rfl) ?_
      refine RW.runP 1 [0, 3, 4, 16] (sq 1 3) [(0, .slice a xs.length c), (3, .int .i64 (if xs[i] < minOf (xs.take i) then xs[i] else minOf (xs.take i))), (4, .int .i64 (i : Int)), (16, .int .i64 (i : Int))] (by as_aux_lemma => kernel_rfl) (by as_aux_lemma => kernel_rfl) ?_
      refine RW.wr64 (κ := .seq) (d := some 17) (r := (sq 2 3)) (t := (i : Int) + 1) (by as_aux_lemma => kernel_rfl) (by omega) ?_
      refine RW.fin 1 [0, 3, 4] [(0, .slice a xs.length c), (3, .int .i64 (if xs[i] < minOf (xs.take i) then xs[i] else minOf (xs.take i))), (4, .int .i64 ((i : Int) + 1))] (by as_aux_lemma => kernel_rfl) ?_
      have H := H.pick [1, 2] (G' := [Fc b3 o4 [.int .i64 (xs[0])], Rp (Shape.slice (Shape.int .i64)) [.slice a xs.length c] xs]) rfl
      exact WK.back (hback8 (i + 1) _ ⟨H, by omega, by omega⟩ (by first | omega | (simp only []; omega))) (by rw [minOf_take xs i hinv0.1 (by omega)]; simp)
    · skip
      replace h10 := of_decide_eq_false h10
      refine WK.run 3 [2] [.code (cd Try.prog 26 [5])] [(2, .int .i64 (minOf (xs.take i)))] (by as_aux_lemma => kernel_rfl) ?_
      refine WK.ret (v := .int .i64 (minOf (xs.take i))) Try.func26 (by as_aux_lemma => kernel_rfl) (by as_aux_lemma => kernel_rfl) ?_
      have e : i = xs.length := by omega
      rw [e, List.take_length]
      exact ⟨_, rfl, H.done, rfl⟩

def stE (n : Nat) (node : Int) : Int := if n = 0 then 1 else if node < 1 ∨ node > (n : Int) then 2 else 0
theorem st_zero {n : Nat} {node : Int} (h : stE n node = 0) : 0 < n ∧ 1 ≤ node ∧ node ≤ n := by
  unfold stE at h
  split at h
  · omega
  · split at h
    · omega
    · omega

theorem state_nil {S : Nat → Prop} {w : World} (node : Int) :
    Calls Try.prog 23 #[.pointer none, .int .i64 node] w (Ret fun v w' => Ext w w' ∧ v = .int .i64 1) := by
  refine WK.calls1 (fn := Try.f23) (n := 28) (σ := [(0, .pointer none), (1, .int .i64 node)]) Try.func23 rfl (by as_aux_lemma => kernel_rfl) (by as_aux_lemma => kernel_rfl) (by as_aux_lemma => kernel_rfl) ?_
  have H := Hp.startF (w := w) (S := S) (G := []) .nil
  refine WK.run 9 [4] [.code (cd Try.prog 23 [1, 0, 0, 1, 0, 1]), .inBlock 0, .code (cd Try.prog 23 [2])] [(4, .int .i64 1)] (by as_aux_lemma => kernel_rfl) ?_
  refine WK.ret (v := .int .i64 1) Try.func23 (by as_aux_lemma => kernel_rfl) (by as_aux_lemma => kernel_rfl) ?_
  exact ⟨_, rfl, H.done, rfl⟩

theorem state_spec {S : Nat → Prop} {w : World} {cb nc tn tc : Nat} {na ta : Option Addr} {now : List Int} {num den slack : Int} (hF : (Fc cb 0 [.slice na now.length nc, .int .i64 num, .int .i64 den, .int .i64 slack, .slice ta tn tc]).p S w) (node : Int) :
    Calls Try.prog 23 #[.pointer (some ⟨cb, 0, none⟩), .int .i64 node] w (Ret fun v w' => Ext w w' ∧ v = .int .i64 (stE now.length node)) := by
  refine WK.calls1 (fn := Try.f23) (n := 28) (σ := [(0, .pointer (some ⟨cb, 0, none⟩)), (1, .int .i64 node)]) Try.func23 rfl (by as_aux_lemma => kernel_rfl) (by as_aux_lemma => kernel_rfl) (by as_aux_lemma => kernel_rfl) ?_
  have H := Hp.startF (w := w) (S := S) (G := [Fc cb 0 [.slice na now.length nc, .int .i64 num, .int .i64 den, .int .i64 slack, .slice ta tn tc]]) (.cons hF .nil)
  refine WK.run 5 [0, 1] [.code (cd Try.prog 23 [1, 0, 0, 0]), .code (cd Try.prog 23 [1, 0, 0, 1]), .inBlock 0, .code (cd Try.prog 23 [2])] [(0, .pointer (some ⟨cb, 0, none⟩)), (1, .int .i64 node)] (by as_aux_lemma => kernel_rfl) ?_
  refine WK.reg1 (l := sq 0 11) (by as_aux_lemma => kernel_rfl) (by as_aux_lemma => kernel_rfl) ?_
  refine RW.runP 6 [0, 1, 8, 11] (sq 6 11) [(0, .pointer (some ⟨cb, 0, none⟩)), (1, .int .i64 node), (8, .bool false), (11, .pointer (some ⟨cb, 0, none⟩))] (by as_aux_lemma => kernel_rfl) (by as_aux_lemma => kernel_rfl) ?_
  refine RW.load (κ := .seq) (d := some 12) (r := (sq 7 11)) (T := 22) (b := cb) (o' := 0) (k := 0) (v := .slice na now.length nc) (by as_aux_lemma => kernel_rfl) (H.fc 0 rfl) rfl (by as_aux_lemma => kernel_rfl) ?_
  refine RW.fin 4 [0, 1, 5] [(0, .pointer (some ⟨cb, 0, none⟩)), (1, .int .i64 node), (5, .bool (((now.length : Nat) : Int) == 0))] (by as_aux_lemma => kernel_rfl) ?_
  refine WK.cond1 (((now.length : Nat) : Int) == 0) (by as_aux_lemma => kernel_rfl) (by as_aux_lemma => kernel_rfl) (fun h1 => ?_) (fun h1 => ?_)
  · skip
    replace h1 := eq_of_beq h1
    refine WK.run 2 [4] [.code (cd Try.prog 23 [1, 0, 0, 1, 0, 1]), .inBlock 0, .code (cd Try.prog 23 [2])] [(4, .int .i64 1)] (by as_aux_lemma => kernel_rfl) ?_
    refine WK.ret (v := .int .i64 1) Try.func23 (by as_aux_lemma => kernel_rfl) (by as_aux_lemma => kernel_rfl) ?_
    refine ⟨_, rfl, H.done, ?_⟩
    congr 1
    unfold stE
    first | rw [if_pos (by omega)] | rw [if_neg (by omega), if_pos (by omega)] | rw [if_neg (by omega), if_neg (by omega)]
  · skip
    replace h1 := ne_of_beq_false h1
    refine WK.run 1 [0, 1] [.code (cd Try.prog 23 [1, 0, 0, 1, 1, 0]), .code (cd Try.prog 23 [1, 0, 0, 1, 1, 1]), .inBlock 0, .code (cd Try.prog 23 [2])] [(0, .pointer (some ⟨cb, 0, none⟩)), (1, .int .i64 node)] (by as_aux_lemma => kernel_rfl) ?_
    refine WK.reg1 (l := sq 0 12) (by as_aux_lemma => kernel_rfl) (by as_aux_lemma => kernel_rfl) ?_
    refine RW.runP 3 [0, 1, 19] (sq 3 12) [(0, .pointer (some ⟨cb, 0, none⟩)), (1, .int .i64 node), (19, .bool (decide ((node : Int) < 1)))] (by as_aux_lemma => kernel_rfl) (by as_aux_lemma => kernel_rfl) ?_
    refine RW.test (fun b_ => [(0, .pointer (some ⟨cb, 0, none⟩)), (1, .int .i64 node), (19, .bool b_)]) (decide ((node : Int) < 1)) (fun h2 => ?_) (fun h2 => ?_)
    · skip
      replace h2 := of_decide_eq_true h2
      refine RW.fin 9 [16] [(16, .bool true)] (by as_aux_lemma => kernel_rfl) ?_
      refine WK.run 3 [4] [.code (cd Try.prog 23 [1, 0, 0, 1, 1, 1, 0, 1]), .inBlock 0, .code (cd Try.prog 23 [2])] [(4, .int .i64 2)] (by as_aux_lemma => kernel_rfl) ?_
      refine WK.ret (v := .int .i64 2) Try.func23 (by as_aux_lemma => kernel_rfl) (by as_aux_lemma => kernel_rfl) ?_
      refine ⟨_, rfl, H.done, ?_⟩
      congr 1
      unfold stE
      first | rw [if_pos (by omega)] | rw [if_neg (by omega), if_pos (by omega)] | rw [if_neg (by omega), if_neg (by omega)]
    · skip
      replace h2 := of_decide_eq_false h2
      refine RW.runP 4 [19, 20, 23] (sq 7 12) [(19, .bool false), (20, .int .i64 node), (23, .pointer (some ⟨cb, 0, none⟩))] (by as_aux_lemma => kernel_rfl) (by as_aux_lemma => kernel_rfl) ?_
      refine RW.load (κ := .seq) (d := some 24) (r := (sq 8 12)) (T := 22) (b := cb) (o' := 0) (k := 0) (v := .slice na now.length nc) (by as_aux_lemma => kernel_rfl) (H.fc 0 rfl) rfl (by as_aux_lemma => kernel_rfl) ?_
      refine RW.fin 4 [16] [(16, .bool (decide ((node : Int) > ((now.length : Nat) : Int))))] (by as_aux_lemma => kernel_rfl) ?_
      refine WK.cond1 (decide ((node : Int) > ((now.length : Nat) : Int))) (by as_aux_lemma => kernel_rfl) (by as_aux_lemma => kernel_rfl) (fun h3 => ?_) (fun h3 => ?_)
      · skip
        replace h3 := of_decide_eq_true h3
        refine WK.run 2 [4] [.code (cd Try.prog 23 [1, 0, 0, 1, 1, 1, 0, 1]), .inBlock 0, .code (cd Try.prog 23 [2])] [(4, .int .i64 2)] (by as_aux_lemma => kernel_rfl) ?_
        refine WK.ret (v := .int .i64 2) Try.func23 (by as_aux_lemma => kernel_rfl) (by as_aux_lemma => kernel_rfl) ?_
        refine ⟨_, rfl, H.done, ?_⟩
        congr 1
        unfold stE
        first | rw [if_pos (by omega)] | rw [if_neg (by omega), if_pos (by omega)] | rw [if_neg (by omega), if_neg (by omega)]
      · skip
        replace h3 := of_decide_eq_false h3
        refine WK.run 4 [4] [.code (cd Try.prog 23 [3])] [(4, .int .i64 0)] (by as_aux_lemma => kernel_rfl) ?_
        refine WK.ret (v := .int .i64 0) Try.func23 (by as_aux_lemma => kernel_rfl) (by as_aux_lemma => kernel_rfl) ?_
        refine ⟨_, rfl, H.done, ?_⟩
        congr 1
        unfold stE
        first | rw [if_pos (by omega)] | rw [if_neg (by omega), if_pos (by omega)] | rw [if_neg (by omega), if_neg (by omega)]

theorem state_in {S : Nat → Prop} {w : World} {cb nc tn tc : Nat} {na ta : Option Addr} {now : List Int} {num den slack : Int} (hF : (Fc cb 0 [.slice na now.length nc, .int .i64 num, .int .i64 den, .int .i64 slack, .slice ta tn tc]).p S w) {i : Nat} (hi : i < now.length) : Calls Try.prog 23 #[.pointer (some ⟨cb, 0, none⟩), .int .i64 ((i : Int) + 1)] w (Ret fun v w' => Ext w w' ∧ v = .int .i64 0) :=
  (state_spec hF ((i : Int) + 1)).mono fun e w' h => by
    obtain ⟨v, he, hx, hv⟩ := h
    refine ⟨v, he, hx, hv.trans ?_⟩
    unfold stE
    rw [if_neg (by omega), if_neg (by omega)]

theorem now_nil {S : Nat → Prop} {w : World} (node : Int) :
    Calls Try.prog 11 #[.pointer none, .int .i64 node] w (Ret fun v w' => Ext w w' ∧ v = .int .i64 0) := by
  refine WK.calls1 (fn := Try.f11) (n := 17) (σ := [(0, .pointer none), (1, .int .i64 node)]) Try.func11 rfl (by as_aux_lemma => kernel_rfl) (by as_aux_lemma => kernel_rfl) (by as_aux_lemma => kernel_rfl) ?_
  have H := Hp.startF (w := w) (S := S) (G := []) .nil
  refine WK.run 4 [0, 1] [.code (cd Try.prog 11 [1, 0, 0]), .code (cd Try.prog 11 [1, 0, 1]), .code (cd Try.prog 11 [2])] [(0, .pointer none), (1, .int .i64 node)] (by as_aux_lemma => kernel_rfl) ?_
  refine WK.reg1 (l := sq 0 4) (by as_aux_lemma => kernel_rfl) (by as_aux_lemma => kernel_rfl) ?_
  refine RW.runP 2 [0, 1, 5, 6] (sq 2 4) [(0, .pointer none), (1, .int .i64 node), (5, .pointer none), (6, .int .i64 node)] (by as_aux_lemma => kernel_rfl) (by as_aux_lemma => kernel_rfl) ?_
  refine RW.call (κ := .seq) (d := some 7) (r := (sq 3 4)) (g := 23) (args := #[.pointer none, .int .i64 node]) (by as_aux_lemma => kernel_rfl) (nofun) (state_nil (S := fun _ => True) node) ?_
  rintro _ w1 hE2 rfl
  have H := H.ext hE2
  refine RW.fin 1 [0, 1, 8] [(0, .pointer none), (1, .int .i64 node), (8, .bool true)] (by as_aux_lemma => kernel_rfl) ?_
  refine WK.run 3 [4] [.code (cd Try.prog 11 [1, 0, 1, 0, 1]), .code (cd Try.prog 11 [2])] [(4, .int .i64 0)] (by as_aux_lemma => kernel_rfl) ?_
  refine WK.ret (v := .int .i64 0) Try.func11 (by as_aux_lemma => kernel_rfl) (by as_aux_lemma => kernel_rfl) ?_
  exact ⟨_, rfl, H.done, rfl⟩

def nowE (now : List Int) (node : Int) : Int := if stE now.length node = 0 then (now[(node - 1).toNat]?).getD 0 else 0

theorem now_spec {S : Nat → Prop} {w : World} {cb nc tn tc : Nat} {na ta : Option Addr} {now : List Int} {num den slack : Int} (hF : (Fc cb 0 [.slice na now.length nc, .int .i64 num, .int .i64 den, .int .i64 slack, .slice ta tn tc]).p S w) (hN : (Shape.slice (Shape.int .i64)).rep S w [.slice na now.length nc] now) (node : Int) :
    Calls Try.prog 11 #[.pointer (some ⟨cb, 0, none⟩), .int .i64 node] w (Ret fun v w' => Ext w w' ∧ v = .int .i64 (nowE now node)) := by
  have hnl := Shape.slice_len hN
  refine WK.calls1 (fn := Try.f11) (n := 17) (σ := [(0, .pointer (some ⟨cb, 0, none⟩)), (1, .int .i64 node)]) Try.func11 rfl (by as_aux_lemma => kernel_rfl) (by as_aux_lemma => kernel_rfl) (by as_aux_lemma => kernel_rfl) ?_
  have H := Hp.startF (w := w) (S := S) (G := [Fc cb 0 [.slice na now.length nc, .int .i64 num, .int .i64 den, .int .i64 slack, .slice ta tn tc], Rp (Shape.slice (Shape.int .i64)) [.slice na now.length nc] now]) (.cons hF (.rp hN .nil))
  refine WK.run 4 [0, 1] [.code (cd Try.prog 11 [1, 0, 0]), .code (cd Try.prog 11 [1, 0, 1]), .code (cd Try.prog 11 [2])] [(0, .pointer (some ⟨cb, 0, none⟩)), (1, .int .i64 node)] (by as_aux_lemma => kernel_rfl) ?_
  refine WK.reg1 (l := sq 0 4) (by as_aux_lemma => kernel_rfl) (by as_aux_lemma => kernel_rfl) ?_
  refine RW.runP 2 [0, 1, 5, 6] (sq 2 4) [(0, .pointer (some ⟨cb, 0, none⟩)), (1, .int .i64 node), (5, .pointer (some ⟨cb, 0, none⟩)), (6, .int .i64 node)] (by as_aux_lemma => kernel_rfl) (by as_aux_lemma => kernel_rfl) ?_
  refine RW.call (κ := .seq) (d := some 7) (r := (sq 3 4)) (g := 23) (args := #[.pointer (some ⟨cb, 0, none⟩), .int .i64 node]) (by as_aux_lemma => kernel_rfl) (nofun) (state_spec (S := fun _ => True) (now := now) (H.viewF 0 rfl) node) ?_
  rintro _ w1 hE2 rfl
  have H := H.ext hE2
  refine RW.fin 1 [0, 1, 8] [(0, .pointer (some ⟨cb, 0, none⟩)), (1, .int .i64 node), (8, .bool ((stE now.length node) != 0))] (by as_aux_lemma => kernel_rfl) ?_
  refine WK.cond1 ((stE now.length node) != 0) (by as_aux_lemma => kernel_rfl) (by as_aux_lemma => kernel_rfl) (fun h3 => ?_) (fun h3 => ?_)
  · skip
    replace h3 := bne_iff_ne.1 h3
    refine WK.run 2 [4] [.code (cd Try.prog 11 [1, 0, 1, 0, 1]), .code (cd Try.prog 11 [2])] [(4, .int .i64 0)] (by as_aux_lemma => kernel_rfl) ?_
    refine WK.ret (v := .int .i64 0) Try.func11 (by as_aux_lemma => kernel_rfl) (by as_aux_lemma => kernel_rfl) ?_
    refine ⟨_, rfl, H.done, ?_⟩
    congr 1
    unfold nowE
    rw [if_neg (by omega)]
  · skip
    replace h3 := (bne_eq_false_iff_eq.1 h3)
    have hst := st_zero h3
    refine WK.run 2 [0, 1] [.code (cd Try.prog 11 [2, 0]), .code (cd Try.prog 11 [3])] [(0, .pointer (some ⟨cb, 0, none⟩)), (1, .int .i64 node)] (by as_aux_lemma => kernel_rfl) ?_
    refine WK.reg1 (l := sq 0 9) (by as_aux_lemma => kernel_rfl) (by as_aux_lemma => kernel_rfl) ?_
    refine RW.runP 3 [1, 11] (sq 3 9) [(1, .int .i64 node), (11, .pointer (some ⟨cb, 0, none⟩))] (by as_aux_lemma => kernel_rfl) (by as_aux_lemma => kernel_rfl) ?_
    refine RW.load (κ := .seq) (d := some 12) (r := (sq 4 9)) (T := 22) (b := cb) (o' := 0) (k := 0) (v := .slice na now.length nc) (by as_aux_lemma => kernel_rfl) (H.fc 0 rfl) rfl (by as_aux_lemma => kernel_rfl) ?_
    refine RW.runP 1 [12, 13] (sq 5 9) [(12, .slice na now.length nc), (13, .int .i64 node)] (by as_aux_lemma => kernel_rfl) (by as_aux_lemma => kernel_rfl) ?_
    refine RW.wr64 (κ := .seq) (d := some 14) (r := (sq 6 9)) (t := node - 1) (by as_aux_lemma => kernel_rfl) (by omega) ?_
    have hx4 : (node - 1).toNat < now.length := by omega
    refine RW.index (κ := .seq) (d := some 15) (r := (sq 7 9)) (T := 22) (e := 3) (ik := .i64) (ix := node - 1) (sh := (Shape.int .i64)) (x := now[(node - 1).toNat]) (by as_aux_lemma => kernel_rfl) (by as_aux_lemma => kernel_rfl) H 1 rfl ((node - 1).toNat) (by omega) (List.getElem?_eq_getElem hx4) ?_
    intro b5 o6 es7 hr8 H
    have hb9 := Shape.i64_bd hr8
    obtain ⟨rfl, -⟩ := hr8
    refine RW.load (κ := .seq) (d := some 16) (r := (sq 8 9)) (T := 3) (b := b5) (o' := o6) (k := 0) (v := .int .i64 (now[(node - 1).toNat])) (by as_aux_lemma => kernel_rfl) (H.fc 0 rfl) rfl (by as_aux_lemma => kernel_rfl) ?_
    refine RW.fin 1 [4] [(4, .int .i64 (now[(node - 1).toNat]))] (by as_aux_lemma => kernel_rfl) ?_
    refine WK.ret (v := .int .i64 (now[(node - 1).toNat])) Try.func11 (by as_aux_lemma => kernel_rfl) (by as_aux_lemma => kernel_rfl) ?_
    refine ⟨_, rfl, H.done, ?_⟩
    congr 1
    unfold nowE
    rw [if_pos (by omega), List.getElem?_eq_getElem (by omega)]; rfl


end Go.Proofs.Ytghnicaefbdjfaa
