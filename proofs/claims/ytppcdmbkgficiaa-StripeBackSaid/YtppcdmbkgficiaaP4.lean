import Derived.Test.YtppcdmbkgficiaaP3
namespace Go.Proofs.Ytppcdmbkgficiaa
open Go.BX

theorem pcclone_nil {S : Nat → Prop} {w : World} {xs : List Pc} {c : Nat} (h : (Shape.slice pcS).rep S w [.slice none xs.length c] xs) (hby : xs.length * 32 ≤ 140737488355328) :
    Calls Try.prog 122 #[.slice none xs.length c] w (Ret fun v w' => Ext w w' ∧ Hp w S [] [] [⟨pcS, 72, v, xs⟩] [] w') := by
  have hx := Shape.slice_none h
  refine WK.calls1 (fn := Try.f122) (n := 8) (σ := [(0, .slice none xs.length c)]) Try.func122 rfl (by as_aux_lemma => kernel_rfl) (by as_aux_lemma => kernel_rfl) (by as_aux_lemma => kernel_rfl) ?_
  have H := Hp.startF (w := w) (S := S) (G := [Rp (Shape.slice pcS) [.slice none xs.length c] xs]) (.rp h .nil)
  refine WK.run 8 [2] [.code (cd Try.prog 122 [1, 0, 1, 0, 1]), .code (cd Try.prog 122 [2])] [(2, .slice none 0 0)] (by as_aux_lemma => kernel_rfl) ?_
  refine WK.ret (v := .slice none 0 0) Try.func122 (by as_aux_lemma => kernel_rfl) (by as_aux_lemma => kernel_rfl) ?_
  subst hx
  exact ⟨_, rfl, H.done, (H.pick [] rfl).ownNil pcS 72⟩

theorem pcclone_some {S : Nat → Prop} {w : World} {xs : List Pc} {a : Addr} {c : Nat} (h : (Shape.slice pcS).rep S w [.slice (some a) xs.length c] xs) (hby : xs.length * 32 ≤ 140737488355328) :
    Calls Try.prog 122 #[.slice (some a) xs.length c] w (Ret fun v w' => Ext w w' ∧ Hp w S [] [] [⟨pcS, 72, v, xs⟩] [] w') := by
  refine WK.calls1 (fn := Try.f122) (n := 8) (σ := [(0, .slice (some a) xs.length c)]) Try.func122 rfl (by as_aux_lemma => kernel_rfl) (by as_aux_lemma => kernel_rfl) (by as_aux_lemma => kernel_rfl) ?_
  have H := Hp.startF (w := w) (S := S) (G := [Rp (Shape.slice pcS) [.slice (some a) xs.length c] xs]) (.rp h .nil)
  refine WK.run 8 [0] [.code (cd Try.prog 122 [2, 0]), .code (cd Try.prog 122 [3])] [(0, .slice (some a) xs.length c)] (by as_aux_lemma => kernel_rfl) ?_
  refine WK.reg1 (l := sq 0 4) (by as_aux_lemma => kernel_rfl) (by as_aux_lemma => kernel_rfl) ?_
  refine RW.new (κ := .seq) (d := some 5) (r := (sq 1 4)) (o := .cells #[] 72 (0, 0)) (v := fun b => .slice (some ⟨b, 0, none⟩) 0 0) (fun b => by as_aux_lemma => kernel_rfl) (nofun) H ?_
  intro b1 w2 H
  refine RW.runP 1 [5, 6] (sq 2 4) [(5, .slice (some ⟨b1, 0, none⟩) 0 0), (6, .slice (some a) xs.length c)] (by as_aux_lemma => kernel_rfl) (by as_aux_lemma => kernel_rfl) ?_
  have H := H.toOwn (sh := pcS) (xs := []) (cap := 0) (by rfl) (Nat.le_refl _) (Nat.zero_le _) (by simp) EsP.nil
  have H : Hp w S [] [] [⟨pcS, 72, .slice (some ⟨b1, 0, none⟩) 0 0, []⟩] [Rp (Shape.slice pcS) [.slice (some a) xs.length c] xs] _ := H
  refine RW.appendW (d := some 7) (r := (sq 3 4)) (T := 70) (ty := 70) (e := 72) (m := 2) (by_ := 32) (v := .slice (some ⟨b1, 0, none⟩) 0 0) (a2 := (some a)) (l2 := xs.length) (c2 := c) (zs := xs) (by as_aux_lemma => kernel_rfl) (by as_aux_lemma => kernel_rfl) rfl H 0 rfl 0 rfl (rfl) (by omega) ?_
  intro a3 c4 w6 H hc5
  have H : Hp w S [] [] [⟨pcS, 72, .slice a3 xs.length c4, xs⟩] [Rp (Shape.slice pcS) [.slice (some a) xs.length c] xs] _ := H
  refine RW.fin 1 [2] [(2, .slice a3 xs.length c4)] (by as_aux_lemma => kernel_rfl) ?_
  refine WK.ret (v := .slice a3 xs.length c4) Try.func122 (by as_aux_lemma => kernel_rfl) (by as_aux_lemma => kernel_rfl) ?_
  exact ⟨_, rfl, H.done, H.pick [] rfl⟩

theorem pcclone_spec {S : Nat → Prop} {w : World} {xs : List Pc} {a : Option Addr} {c : Nat} (h : (Shape.slice pcS).rep S w [.slice a xs.length c] xs) (hby : xs.length * 32 ≤ 140737488355328) :
    Calls Try.prog 122 #[.slice a xs.length c] w (Ret fun v w' => Ext w w' ∧ Hp w S [] [] [⟨pcS, 72, v, xs⟩] [] w') := by
  cases a with
  | none => exact pcclone_nil h hby
  | some a => exact pcclone_some h hby

structure PsOk (ps : List Pc) (n l : Nat) : Prop where
  nd : (ps.map Pc.index).Nodup
  rng : ∀ p ∈ ps, 0 ≤ p.index ∧ p.index < (n : Int)
  len : ∀ p ∈ ps, p.data.length = l
theorem PsOk.le {ps : List Pc} {n l : Nat} (h : PsOk ps n l) : ps.length ≤ n := by
  have hsub : (ps.map fun p => p.index.toNat) ⊆ List.range n := fun x hx => by
    obtain ⟨p, hp, rfl⟩ := List.mem_map.1 hx
    have := h.rng p hp
    exact List.mem_range.2 (by omega)
  have hnd : (ps.map fun p => p.index.toNat).Nodup := by
    have h1 := h.nd
    rw [List.Nodup, List.pairwise_map] at h1 ⊢
    refine h1.imp_of_mem fun {a b} ha hb hab => ?_
    have := h.rng a ha
    have := h.rng b hb
    omega
  have hn2 : ((List.range n).filter fun x => decide (x ∈ ps.map fun p => p.index.toNat)).Nodup := List.filter_sublist.nodup List.nodup_range
  have hp := (List.perm_ext_iff_of_nodup hnd hn2).2 fun x => by
    rw [List.mem_filter, decide_eq_true_iff]
    exact ⟨fun h => ⟨hsub h, h⟩, fun h => h.2⟩
  have h1 := hp.length_eq
  have h2 := List.length_filter_le (fun x => decide (x ∈ ps.map fun p => p.index.toNat)) (List.range n)
  rw [List.length_map] at h1
  rw [List.length_range] at h2
  omega

theorem PsOk.fresh {ps : List Pc} {n l i : Nat} (h : PsOk ps n l) (hi : i < ps.length) : ¬ (ps[i]).index ∈ (ps.take i).map Pc.index := fun hm => by
  have hnd := h.nd
  obtain ⟨q, hq, he⟩ := List.mem_map.1 hm
  obtain ⟨j, hj, rfl⟩ := List.mem_iff_getElem.1 hq
  rw [List.length_take] at hj
  rw [List.getElem_take] at he
  have := (List.getElem_inj (h₀ := by rw [List.length_map]; omega) (h₁ := by rw [List.length_map]; exact hi) hnd (i := j) (j := i)).1 (by rw [List.getElem_map, List.getElem_map]; exact he)
  omega

theorem chosen_ok {S : Nat → Prop} {w : World} {ps : List Pc} {a : Option Addr} {c : Nat} (h : (Shape.slice pcS).rep S w [.slice a ps.length c] ps) {size k n : Nat} (hs : size ≤ 65536) (hk : 1 ≤ k) (hkn : k ≤ n) (hn : n ≤ 255) (hok : PsOk ps n (lenOf size k)) (hlen : k ≤ ps.length) :
    Calls Try.prog 99 #[.slice a ps.length c, .int .i64 (size : Int), .int .i64 (k : Int), .int .i64 (n : Int)] w (Ret fun v w' => Ext w w' ∧ ∃ (a : Option Addr) (c : Nat) (ys : List Pc), v = .tuple #[.slice a (ys.take k).length c, .int .i64 ((lenOf size k : Nat) : Int), .int .i64 0] ∧ ys.Perm ps ∧ ys.Pairwise (fun x y => x.index ≤ y.index) ∧ (Shape.slice pcS).rep (Nw S w) w' [.slice a (ys.take k).length c] (ys.take k)) := by
  have hpl := Shape.slice_len h
  have hple := hok.le
  refine WK.calls1 (fn := Try.f99) (n := 75) (σ := [(0, .slice a ps.length c), (1, .int .i64 (size : Int)), (2, .int .i64 (k : Int)), (3, .int .i64 (n : Int))]) Try.func99 rfl (by as_aux_lemma => kernel_rfl) (by as_aux_lemma => kernel_rfl) (by as_aux_lemma => kernel_rfl) ?_
  have H := Hp.startF (w := w) (S := S) (G := [Rp (Shape.slice pcS) [.slice a ps.length c] ps]) (.rp h .nil)
  refine WK.run 3 [0, 1, 2, 3] [.code (cd Try.prog 99 [1, 0]), .code (cd Try.prog 99 [2])] [(0, .slice a ps.length c), (1, .int .i64 (size : Int)), (2, .int .i64 (k : Int)), (3, .int .i64 (n : Int))] (by as_aux_lemma => kernel_rfl) ?_
  refine WK.reg1 (l := sq 0 9) (by as_aux_lemma => kernel_rfl) (by as_aux_lemma => kernel_rfl) ?_
  refine RW.runP 3 [0, 2, 3, 20, 21, 22] (sq 3 9) [(0, .slice a ps.length c), (2, .int .i64 (k : Int)), (3, .int .i64 (n : Int)), (20, .int .i64 (size : Int)), (21, .int .i64 (k : Int)), (22, .int .i64 (n : Int))] (by as_aux_lemma => kernel_rfl) (by as_aux_lemma => kernel_rfl) ?_
  refine RW.call (κ := .seq) (d := some 23) (r := (sq 4 9)) (g := 66) (args := #[.int .i64 (size : Int), .int .i64 (k : Int), .int .i64 (n : Int)]) (by as_aux_lemma => kernel_rfl) (nofun) (sizes_ok (S := fun _ => True) size k n (by omega) (by omega) (by omega) (by omega)) ?_
  rintro _ w1 hE2 rfl
  have H := H.ext hE2
  refine RW.fin 5 [0, 2, 3, 11, 12] [(0, .slice a ps.length c), (2, .int .i64 (k : Int)), (3, .int .i64 (n : Int)), (11, .int .i64 ((lenOf size k : Nat) : Int)), (12, .int .i64 0)] (by as_aux_lemma => kernel_rfl) ?_
  refine WK.run 6 [0, 2, 3, 11] [.code (cd Try.prog 99 [3, 0]), .code (cd Try.prog 99 [4])] [(0, .slice a ps.length c), (2, .int .i64 (k : Int)), (3, .int .i64 (n : Int)), (11, .int .i64 ((lenOf size k : Nat) : Int))] (by as_aux_lemma => kernel_rfl) ?_
  refine WK.reg1 (l := sq 0 2) (by as_aux_lemma => kernel_rfl) (by as_aux_lemma => kernel_rfl) ?_
  refine RW.new (κ := .seq) (d := some 29) (r := (sq 1 2)) (o := mapO (Value.int .i64) (Value.int .i64) ([] : List (Int × Int × Nat)) 0) (v := fun b_ => .map (some b_)) (fun _ => by as_aux_lemma => kernel_rfl) (nofun) H ?_
  intro b3 w4 H
  refine RW.fin 1 [0, 2, 3, 11, 13] [(0, .slice a ps.length c), (2, .int .i64 (k : Int)), (3, .int .i64 (n : Int)), (11, .int .i64 ((lenOf size k : Nat) : Int)), (13, .map (some b3))] (by as_aux_lemma => kernel_rfl) ?_
  refine WK.run 4 [0, 2, 3, 11, 13, 30, 31, 32] [.code (cd Try.prog 99 [4, 0, 1, 0]), .inBlock 0, .code (cd Try.prog 99 [5])] [(0, .slice a ps.length c), (2, .int .i64 (k : Int)), (3, .int .i64 (n : Int)), (11, .int .i64 ((lenOf size k : Nat) : Int)), (13, .map (some b3)), (30, .slice a ps.length c), (31, .int .i64 ((ps.length : Nat) : Int)), (32, .int .i64 0)] (by as_aux_lemma => kernel_rfl) ?_
  refine WK.loop (α := Nat × List (Int × Int × Nat) × Nat) (b := cd Try.prog 99 [4, 0, 1, 0, 0]) (by as_aux_lemma => kernel_rfl) (fun st_ => match st_ with | (i, L, cl) => [(0, .slice a ps.length c), (2, .int .i64 (k : Int)), (3, .int .i64 (n : Int)), (11, .int .i64 ((lenOf size k : Nat) : Int)), (13, .map (some b3)), (30, .slice a ps.length c), (31, .int .i64 ((ps.length : Nat) : Int)), (32, .int .i64 (i : Int))]) (fun st_ w' => match st_ with | (i, L, cl) => Hp w S [] [(b3, mapO (Value.int .i64) (Value.int .i64) L cl)] [] [Rp (Shape.slice pcS) [.slice a ps.length c] ps] w' ∧ i ≤ ps.length ∧ L.map (·.1) = (ps.take i).map Pc.index) (fun st_ => match st_ with | (i, L, cl) => ps.length - i) (0, ([] : List (Int × Int × Nat)), 0) ⟨H, Nat.zero_le _, rfl⟩ (rfl) ?_
  rintro ⟨i, L, cl⟩ w6 ⟨H, hinv0⟩ hback5
  refine WK.run 3 [0, 2, 3, 11, 13, 30, 31, 32, 33] [.code (cd Try.prog 99 [4, 0, 1, 0, 0, 1, 0]), .code (cd Try.prog 99 [4, 0, 1, 0, 0, 2]), .inLoop (cd Try.prog 99 [4, 0, 1, 0, 0]), .inBlock 0, .code (cd Try.prog 99 [5])] [(0, .slice a ps.length c), (2, .int .i64 (k : Int)), (3, .int .i64 (n : Int)), (11, .int .i64 ((lenOf size k : Nat) : Int)), (13, .map (some b3)), (30, .slice a ps.length c), (31, .int .i64 ((ps.length : Nat) : Int)), (32, .int .i64 (i : Int)), (33, .bool (decide (((i : Int) : Int) < ((ps.length : Nat) : Int))))] (by as_aux_lemma => kernel_rfl) ?_
  refine WK.cond1 (decide (((i : Int) : Int) < ((ps.length : Nat) : Int))) (by as_aux_lemma => kernel_rfl) (by as_aux_lemma => kernel_rfl) (fun h7 => ?_) (fun h7 => ?_)
  · skip
    replace h7 := of_decide_eq_true h7
    have hpi : ps[i] ∈ ps := List.getElem_mem (by omega)
    have hri := hok.rng _ hpi
    have hli := hok.len _ hpi
    have hfi : mfind (ps[i]).index L = none := mfind_none.2 (by rw [hinv0.2]; exact PsOk.fresh hok (by omega))
    have hfs : (mfind (ps[i]).index L).isSome = false := by rw [hfi]; rfl
    refine WK.run 4 [0, 2, 3, 11, 13, 30, 31, 32] [.code (cd Try.prog 99 [4, 0, 1, 0, 0, 2, 0, 0, 0]), .code (cd Try.prog 99 [4, 0, 1, 0, 0, 2, 0, 0, 1]), .inBlock 1, .code (cd Try.prog 99 [4, 0, 1, 0, 0, 3]), .inLoop (cd Try.prog 99 [4, 0, 1, 0, 0]), .inBlock 0, .code (cd Try.prog 99 [5])] [(0, .slice a ps.length c), (2, .int .i64 (k : Int)), (3, .int .i64 (n : Int)), (11, .int .i64 ((lenOf size k : Nat) : Int)), (13, .map (some b3)), (30, .slice a ps.length c), (31, .int .i64 ((ps.length : Nat) : Int)), (32, .int .i64 (i : Int))] (by as_aux_lemma => kernel_rfl) ?_
    refine WK.reg1 (l := sq 0 4) (by as_aux_lemma => kernel_rfl) (by as_aux_lemma => kernel_rfl) ?_
    have hx8 : i < ps.length := by omega
    refine RW.index (κ := .seq) (d := some 34) (r := (sq 1 4)) (T := 70) (e := 72) (ik := .i64) (ix := (i : Int)) (sh := pcS) (x := ps[i]) (by as_aux_lemma => kernel_rfl) (by as_aux_lemma => kernel_rfl) H 0 rfl i (by omega) (List.getElem?_eq_getElem hx8) ?_
    intro b9 o10 es11 hr12 H
    obtain ⟨a1q13, k1q13, rfl, hf14, hf15⟩ := pc_open hr12
    have H := H.add (F := Rp (Shape.slice (Shape.bv .u8 8)) [.slice a1q13 ((ps[i]).data.length) k1q13] ((ps[i]).data)) hf15
    refine RW.load (κ := .seq) (d := some 35) (r := (sq 2 4)) (T := 72) (b := b9) (o' := o10) (k := 0) (v := .agg #[.int .i64 ((ps[i]).index), .slice a1q13 ((ps[i]).data.length) k1q13]) (by as_aux_lemma => kernel_rfl) (H.fc 1 rfl) rfl (by as_aux_lemma => kernel_rfl) ?_
    refine RW.new (κ := .seq) (d := some 15) (r := (sq 3 4)) (o := .cells #[.int .i64 0, .slice none 0 0] 72 (0, 0)) (v := fun b => .pointer (some ⟨b, 0, none⟩)) (fun b => by as_aux_lemma => kernel_rfl) (nofun) H ?_
    intro b16 w17 H
    refine RW.store (d := none) (r := (sq 4 4)) (T := 72) (b := b16) (k := 0) (v := .agg #[.int .i64 ((ps[i]).index), .slice a1q13 ((ps[i]).data.length) k1q13]) (c' := #[.int .i64 ((ps[i]).index), .slice a1q13 ((ps[i]).data.length) k1q13]) (M' := [(b16, .cells #[.int .i64 ((ps[i]).index), .slice a1q13 ((ps[i]).data.length) k1q13] 72 (0, 0)), (b3, mapO (Value.int .i64) (Value.int .i64) L cl)]) (by as_aux_lemma => kernel_rfl) H 0 rfl (by as_aux_lemma => kernel_rfl) (by as_aux_lemma => kernel_rfl) ?_
    intro w18 H
    refine RW.fin 0 [0, 2, 3, 11, 13, 15, 30, 31, 32] [(0, .slice a ps.length c), (2, .int .i64 (k : Int)), (3, .int .i64 (n : Int)), (11, .int .i64 ((lenOf size k : Nat) : Int)), (13, .map (some b3)), (15, .pointer (some ⟨b16, 0, none⟩)), (30, .slice a ps.length c), (31, .int .i64 ((ps.length : Nat) : Int)), (32, .int .i64 (i : Int))] (by as_aux_lemma => kernel_rfl) ?_
    refine WK.run 2 [0, 2, 3, 11, 13, 15, 30, 31, 32] [.code (cd Try.prog 99 [4, 0, 1, 0, 0, 2, 0, 0, 1, 0, 0]), .code (cd Try.prog 99 [4, 0, 1, 0, 0, 2, 0, 0, 1, 0, 1]), .code (cd Try.prog 99 [4, 0, 1, 0, 0, 2, 0, 0, 2]), .inBlock 1, .code (cd Try.prog 99 [4, 0, 1, 0, 0, 3]), .inLoop (cd Try.prog 99 [4, 0, 1, 0, 0]), .inBlock 0, .code (cd Try.prog 99 [5])] [(0, .slice a ps.length c), (2, .int .i64 (k : Int)), (3, .int .i64 (n : Int)), (11, .int .i64 ((lenOf size k : Nat) : Int)), (13, .map (some b3)), (15, .pointer (some ⟨b16, 0, none⟩)), (30, .slice a ps.length c), (31, .int .i64 ((ps.length : Nat) : Int)), (32, .int .i64 (i : Int))] (by as_aux_lemma => kernel_rfl) ?_
    refine WK.reg1 (l := sq 0 9) (by as_aux_lemma => kernel_rfl) (by as_aux_lemma => kernel_rfl) ?_
    refine RW.runP 2 [0, 2, 3, 11, 13, 15, 30, 31, 32, 37, 38] (sq 2 9) [(0, .slice a ps.length c), (2, .int .i64 (k : Int)), (3, .int .i64 (n : Int)), (11, .int .i64 ((lenOf size k : Nat) : Int)), (13, .map (some b3)), (15, .pointer (some ⟨b16, 0, none⟩)), (30, .slice a ps.length c), (31, .int .i64 ((ps.length : Nat) : Int)), (32, .int .i64 (i : Int)), (37, .map (some b3)), (38, .pointer (some ⟨b16, 0, none⟩))] (by as_aux_lemma => kernel_rfl) (by as_aux_lemma => kernel_rfl) ?_
    refine RW.load (κ := .seq) (d := some 39) (r := (sq 3 9)) (T := 3) (b := b16) (o' := 0) (k := 0) (v := .int .i64 ((ps[i]).index)) (by as_aux_lemma => kernel_rfl) (H.cells 0 rfl) rfl (by as_aux_lemma => kernel_rfl) ?_
    refine RW.mapGet (κ := .seq) (d := some 40) (r := (sq 4 9)) (T := 200) (mk := (Value.int .i64)) (vk := (Value.int .i64)) (Kt := 3) (E := 3) (z := 0) ((ps[i]).index) true (by as_aux_lemma => kernel_rfl) H 1 rfl (KeyOk.int (by as_aux_lemma => kernel_rfl)) (by as_aux_lemma => kernel_rfl) (fun w_ => zeroE_run (by as_aux_lemma => kernel_rfl) w_) ?_
    refine RW.fin 5 [0, 2, 3, 11, 13, 15, 17, 30, 31, 32] [(0, .slice a ps.length c), (2, .int .i64 (k : Int)), (3, .int .i64 (n : Int)), (11, .int .i64 ((lenOf size k : Nat) : Int)), (13, .map (some b3)), (15, .pointer (some ⟨b16, 0, none⟩)), (17, .bool ((mfind ((ps[i]).index) L).isSome)), (30, .slice a ps.length c), (31, .int .i64 ((ps.length : Nat) : Int)), (32, .int .i64 (i : Int))] (by as_aux_lemma => kernel_rfl) ?_
    refine WK.run 1 [0, 2, 3, 11, 13, 15, 17, 30, 31, 32] [.code (cd Try.prog 99 [4, 0, 1, 0, 0, 2, 0, 0, 1, 0, 1, 0]), .code (cd Try.prog 99 [4, 0, 1, 0, 0, 2, 0, 0, 1, 0, 2]), .code (cd Try.prog 99 [4, 0, 1, 0, 0, 2, 0, 0, 2]), .inBlock 1, .code (cd Try.prog 99 [4, 0, 1, 0, 0, 3]), .inLoop (cd Try.prog 99 [4, 0, 1, 0, 0]), .inBlock 0, .code (cd Try.prog 99 [5])] [(0, .slice a ps.length c), (2, .int .i64 (k : Int)), (3, .int .i64 (n : Int)), (11, .int .i64 ((lenOf size k : Nat) : Int)), (13, .map (some b3)), (15, .pointer (some ⟨b16, 0, none⟩)), (17, .bool ((mfind ((ps[i]).index) L).isSome)), (30, .slice a ps.length c), (31, .int .i64 ((ps.length : Nat) : Int)), (32, .int .i64 (i : Int))] (by as_aux_lemma => kernel_rfl) ?_
    refine WK.reg1 (l := sq 0 16) (by as_aux_lemma => kernel_rfl) (by as_aux_lemma => kernel_rfl) ?_
    refine RW.runP 2 [0, 2, 3, 11, 13, 15, 30, 31, 32, 44] (sq 2 16) [(0, .slice a ps.length c), (2, .int .i64 (k : Int)), (3, .int .i64 (n : Int)), (11, .int .i64 ((lenOf size k : Nat) : Int)), (13, .map (some b3)), (15, .pointer (some ⟨b16, 0, none⟩)), (30, .slice a ps.length c), (31, .int .i64 ((ps.length : Nat) : Int)), (32, .int .i64 (i : Int)), (44, .bool ((mfind ((ps[i]).index) L).isSome))] (by as_aux_lemma => kernel_rfl) (by as_aux_lemma => kernel_rfl) ?_
    refine RW.test (fun b_ => [(0, .slice a ps.length c), (2, .int .i64 (k : Int)), (3, .int .i64 (n : Int)), (11, .int .i64 ((lenOf size k : Nat) : Int)), (13, .map (some b3)), (15, .pointer (some ⟨b16, 0, none⟩)), (30, .slice a ps.length c), (31, .int .i64 ((ps.length : Nat) : Int)), (32, .int .i64 (i : Int)), (44, .bool b_)]) ((mfind ((ps[i]).index) L).isSome) (fun h19 => ?_) (fun h19 => ?_)
    · skip
      rw [hfs] at h19; cases h19
    · skip
      refine RW.runP 1 [0, 2, 3, 11, 13, 15, 30, 31, 32, 44, 45] (sq 3 16) [(0, .slice a ps.length c), (2, .int .i64 (k : Int)), (3, .int .i64 (n : Int)), (11, .int .i64 ((lenOf size k : Nat) : Int)), (13, .map (some b3)), (15, .pointer (some ⟨b16, 0, none⟩)), (30, .slice a ps.length c), (31, .int .i64 ((ps.length : Nat) : Int)), (32, .int .i64 (i : Int)), (44, .bool false), (45, .pointer (some ⟨b16, 0, none⟩))] (by as_aux_lemma => kernel_rfl) (by as_aux_lemma => kernel_rfl) ?_
      refine RW.load (κ := .seq) (d := some 46) (r := (sq 4 16)) (T := 3) (b := b16) (o' := 0) (k := 0) (v := .int .i64 ((ps[i]).index)) (by as_aux_lemma => kernel_rfl) (H.cells 0 rfl) rfl (by as_aux_lemma => kernel_rfl) ?_
      refine RW.runP 1 [0, 2, 3, 11, 13, 15, 30, 31, 32, 44, 46, 47] (sq 5 16) [(0, .slice a ps.length c), (2, .int .i64 (k : Int)), (3, .int .i64 (n : Int)), (11, .int .i64 ((lenOf size k : Nat) : Int)), (13, .map (some b3)), (15, .pointer (some ⟨b16, 0, none⟩)), (30, .slice a ps.length c), (31, .int .i64 ((ps.length : Nat) : Int)), (32, .int .i64 (i : Int)), (44, .bool false), (46, .int .i64 ((ps[i]).index)), (47, .int .i64 (n : Int))] (by as_aux_lemma => kernel_rfl) (by as_aux_lemma => kernel_rfl) ?_
      refine RW.wr64 (κ := .seq) (d := some 48) (r := (sq 6 16)) (t := (n : Int) - 1) (by as_aux_lemma => kernel_rfl) (by omega) ?_
      refine RW.call (κ := .seq) (d := some 49) (r := (sq 7 16)) (g := 71) (args := #[.int .i64 ((ps[i]).index), .int .i64 0, .int .i64 ((n : Int) - 1)]) (by as_aux_lemma => kernel_rfl) (nofun) (between_spec (S := fun _ => True) ((ps[i]).index) 0 ((n : Int) - 1)) ?_
      rintro _ w20 hE21 rfl
      have H := H.ext hE21
      refine RW.runP 3 [0, 2, 3, 11, 13, 15, 30, 31, 32, 52] (sq 10 16) [(0, .slice a ps.length c), (2, .int .i64 (k : Int)), (3, .int .i64 (n : Int)), (11, .int .i64 ((lenOf size k : Nat) : Int)), (13, .map (some b3)), (15, .pointer (some ⟨b16, 0, none⟩)), (30, .slice a ps.length c), (31, .int .i64 ((ps.length : Nat) : Int)), (32, .int .i64 (i : Int)), (52, .bool (!(decide (0 ≤ (ps[i]).index ∧ (ps[i]).index ≤ (n : Int) - 1))))] (by as_aux_lemma => kernel_rfl) (by as_aux_lemma => kernel_rfl) ?_
      refine RW.test (fun b_ => [(0, .slice a ps.length c), (2, .int .i64 (k : Int)), (3, .int .i64 (n : Int)), (11, .int .i64 ((lenOf size k : Nat) : Int)), (13, .map (some b3)), (15, .pointer (some ⟨b16, 0, none⟩)), (30, .slice a ps.length c), (31, .int .i64 ((ps.length : Nat) : Int)), (32, .int .i64 (i : Int)), (52, .bool b_)]) (!(decide (0 ≤ (ps[i]).index ∧ (ps[i]).index ≤ (n : Int) - 1))) (fun h22 => ?_) (fun h22 => ?_)
      · skip
        replace h22 : (decide (0 ≤ (ps[i]).index ∧ (ps[i]).index ≤ (n : Int) - 1)) = false := by revert h22; cases (decide (0 ≤ (ps[i]).index ∧ (ps[i]).index ≤ (n : Int) - 1)) <;> simp
        replace h22 := of_decide_eq_false h22
        omega
      · skip
        replace h22 : (decide (0 ≤ (ps[i]).index ∧ (ps[i]).index ≤ (n : Int) - 1)) = true := by revert h22; cases (decide (0 ≤ (ps[i]).index ∧ (ps[i]).index ≤ (n : Int) - 1)) <;> simp
        replace h22 := of_decide_eq_true h22
        refine RW.runP 1 [0, 2, 3, 11, 13, 15, 30, 31, 32, 52, 53] (sq 11 16) [(0, .slice a ps.length c), (2, .int .i64 (k : Int)), (3, .int .i64 (n : Int)), (11, .int .i64 ((lenOf size k : Nat) : Int)), (13, .map (some b3)), (15, .pointer (some ⟨b16, 0, none⟩)), (30, .slice a ps.length c), (31, .int .i64 ((ps.length : Nat) : Int)), (32, .int .i64 (i : Int)), (52, .bool false), (53, .pointer (some ⟨b16, 1, none⟩))] (by as_aux_lemma => kernel_rfl) (by as_aux_lemma => kernel_rfl) ?_
        refine RW.load (κ := .seq) (d := some 54) (r := (sq 12 16)) (T := 23) (b := b16) (o' := 1) (k := 1) (v := .slice a1q13 ((ps[i]).data.length) k1q13) (by as_aux_lemma => kernel_rfl) (H.cells 0 rfl) rfl (by as_aux_lemma => kernel_rfl) ?_
        refine RW.fin 4 [0, 2, 3, 11, 13, 15, 30, 31, 32, 58] [(0, .slice a ps.length c), (2, .int .i64 (k : Int)), (3, .int .i64 (n : Int)), (11, .int .i64 ((lenOf size k : Nat) : Int)), (13, .map (some b3)), (15, .pointer (some ⟨b16, 0, none⟩)), (30, .slice a ps.length c), (31, .int .i64 ((ps.length : Nat) : Int)), (32, .int .i64 (i : Int)), (58, .bool ((((ps[i]).data.length : Nat) : Int) != ((lenOf size k : Nat) : Int)))] (by as_aux_lemma => kernel_rfl) ?_
        refine WK.cond1 ((((ps[i]).data.length : Nat) : Int) != ((lenOf size k : Nat) : Int)) (by as_aux_lemma => kernel_rfl) (by as_aux_lemma => kernel_rfl) (fun h23 => ?_) (fun h23 => ?_)
        · skip
          replace h23 := bne_iff_ne.1 h23
          omega
        · skip
          replace h23 := (bne_eq_false_iff_eq.1 h23)
          refine WK.run 1 [0, 2, 3, 11, 13, 15, 30, 31, 32] [.code (cd Try.prog 99 [4, 0, 1, 0, 0, 2, 0, 0, 2]), .inBlock 1, .code (cd Try.prog 99 [4, 0, 1, 0, 0, 3]), .inLoop (cd Try.prog 99 [4, 0, 1, 0, 0]), .inBlock 0, .code (cd Try.prog 99 [5])] [(0, .slice a ps.length c), (2, .int .i64 (k : Int)), (3, .int .i64 (n : Int)), (11, .int .i64 ((lenOf size k : Nat) : Int)), (13, .map (some b3)), (15, .pointer (some ⟨b16, 0, none⟩)), (30, .slice a ps.length c), (31, .int .i64 ((ps.length : Nat) : Int)), (32, .int .i64 (i : Int))] (by as_aux_lemma => kernel_rfl) ?_
          refine WK.reg1 (l := sq 0 4) (by as_aux_lemma => kernel_rfl) (by as_aux_lemma => kernel_rfl) ?_
          refine RW.runP 2 [0, 2, 3, 11, 13, 30, 31, 32, 59, 60] (sq 2 4) [(0, .slice a ps.length c), (2, .int .i64 (k : Int)), (3, .int .i64 (n : Int)), (11, .int .i64 ((lenOf size k : Nat) : Int)), (13, .map (some b3)), (30, .slice a ps.length c), (31, .int .i64 ((ps.length : Nat) : Int)), (32, .int .i64 (i : Int)), (59, .map (some b3)), (60, .pointer (some ⟨b16, 0, none⟩))] (by as_aux_lemma => kernel_rfl) (by as_aux_lemma => kernel_rfl) ?_
          refine RW.load (κ := .seq) (d := some 61) (r := (sq 3 4)) (T := 3) (b := b16) (o' := 0) (k := 0) (v := .int .i64 ((ps[i]).index)) (by as_aux_lemma => kernel_rfl) (H.cells 0 rfl) rfl (by as_aux_lemma => kernel_rfl) ?_
          refine RW.mapSet (d := none) (r := (sq 4 4)) (T := 200) (mk := (Value.int .i64)) (vk := (Value.int .i64)) (Kt := 3) (E := 3) (M' := [(b16, .cells #[.int .i64 ((ps[i]).index), .slice a1q13 ((ps[i]).data.length) k1q13] 72 (0, 0)), (b3, mapO (Value.int .i64) (Value.int .i64) (mset ((ps[i]).index) 1 cl L) (mclk ((ps[i]).index) cl L))]) ((ps[i]).index) 1 (by as_aux_lemma => kernel_rfl) H 1 rfl (KeyOk.int (by as_aux_lemma => kernel_rfl)) (by as_aux_lemma => kernel_rfl) rfl ?_
          intro w24 hCw24 H
          refine RW.fin 0 [0, 2, 3, 11, 13, 30, 31, 32] [(0, .slice a ps.length c), (2, .int .i64 (k : Int)), (3, .int .i64 (n : Int)), (11, .int .i64 ((lenOf size k : Nat) : Int)), (13, .map (some b3)), (30, .slice a ps.length c), (31, .int .i64 ((ps.length : Nat) : Int)), (32, .int .i64 (i : Int))] (by as_aux_lemma => kernel_rfl) ?_
          refine WK.run 1 [0, 2, 3, 11, 13, 30, 31, 32] [.code (cd Try.prog 99 [4, 0, 1, 0, 0, 3]), .inLoop (cd Try.prog 99 [4, 0, 1, 0, 0]), .inBlock 0, .code (cd Try.prog 99 [5])] [(0, .slice a ps.length c), (2, .int .i64 (k : Int)), (3, .int .i64 (n : Int)), (11, .int .i64 ((lenOf size k : Nat) : Int)), (13, .map (some b3)), (30, .slice a ps.length c), (31, .int .i64 ((ps.length : Nat) : Int)), (32, .int .i64 (i : Int))] (by as_aux_lemma => kernel_rfl) ?_
          refine WK.reg1 (l := sq 0 2) (by as_aux_lemma => kernel_rfl) (by as_aux_lemma => kernel_rfl) ?_
          refine RW.wr64 (κ := .seq) (d := some 62) (r := (sq 1 2)) (t := (i : Int) + 1) (by as_aux_lemma => kernel_rfl) (by omega) ?_
          refine RW.fin 1 [0, 2, 3, 11, 13, 30, 31, 32] [(0, .slice a ps.length c), (2, .int .i64 (k : Int)), (3, .int .i64 (n : Int)), (11, .int .i64 ((lenOf size k : Nat) : Int)), (13, .map (some b3)), (30, .slice a ps.length c), (31, .int .i64 ((ps.length : Nat) : Int)), (32, .int .i64 ((i : Int) + 1))] (by as_aux_lemma => kernel_rfl) ?_
          have H := H.pick [2] (G' := [Rp (Shape.slice pcS) [.slice a ps.length c] ps]) rfl
          have H := H.perms (M' := [(b3, mapO (Value.int .i64) (Value.int .i64) (mset ((ps[i]).index) 1 cl L) (mclk ((ps[i]).index) cl L)), (b16, .cells #[.int .i64 ((ps[i]).index), .slice a1q13 ((ps[i]).data.length) k1q13] 72 (0, 0))]) (W' := []) (List.perm_middle (l₁ := ([(b16, .cells #[.int .i64 ((ps[i]).index), .slice a1q13 ((ps[i]).data.length) k1q13] 72 (0, 0))] : Heap))).symm (List.Perm.refl _)
          have H := H.drop (M' := [(b3, mapO (Value.int .i64) (Value.int .i64) (mset ((ps[i]).index) 1 cl L) (mclk ((ps[i]).index) cl L))]) (W' := []) (by repeat (first | exact List.Sublist.refl _ | apply List.Sublist.cons_cons | apply List.Sublist.cons)) (by repeat (first | exact List.Sublist.refl _ | apply List.Sublist.cons_cons | apply List.Sublist.cons))
          exact WK.back (hback5 (i + 1, mset ((ps[i]).index) 1 cl L, mclk ((ps[i]).index) cl L) _ ⟨H, by omega, by rw [mset_keys, if_neg (by rw [hinv0.2]; exact PsOk.fresh hok (by omega)), hinv0.2, List.take_succ_eq_append_getElem (by omega), List.map_append]; rfl⟩ (by simp only []; omega)) (by as_aux_lemma => kernel_rfl)
  · skip
    replace h7 := of_decide_eq_false h7
    refine WK.run 4 [0, 2, 11, 66] [.code (cd Try.prog 99 [5, 0, 1]), .code (cd Try.prog 99 [6])] [(0, .slice a ps.length c), (2, .int .i64 (k : Int)), (11, .int .i64 ((lenOf size k : Nat) : Int)), (66, .bool (decide ((((ps.length : Nat) : Int) : Int) < (k : Int))))] (by as_aux_lemma => kernel_rfl) ?_
    refine WK.cond1 (decide ((((ps.length : Nat) : Int) : Int) < (k : Int))) (by as_aux_lemma => kernel_rfl) (by as_aux_lemma => kernel_rfl) (fun h25 => ?_) (fun h25 => ?_)
    · skip
      replace h25 := of_decide_eq_true h25
      omega
    · skip
      replace h25 := of_decide_eq_false h25
      refine WK.run 2 [0, 2, 11] [.code (cd Try.prog 99 [6, 0]), .code (cd Try.prog 99 [7])] [(0, .slice a ps.length c), (2, .int .i64 (k : Int)), (11, .int .i64 ((lenOf size k : Nat) : Int))] (by as_aux_lemma => kernel_rfl) ?_
      refine WK.reg1 (l := sq 0 3) (by as_aux_lemma => kernel_rfl) (by as_aux_lemma => kernel_rfl) ?_
      refine RW.runP 1 [2, 11, 67] (sq 1 3) [(2, .int .i64 (k : Int)), (11, .int .i64 ((lenOf size k : Nat) : Int)), (67, .slice a ps.length c)] (by as_aux_lemma => kernel_rfl) (by as_aux_lemma => kernel_rfl) ?_
      refine RW.call (κ := .seq) (d := some 68) (r := (sq 2 3)) (g := 122) (args := #[.slice a ps.length c]) (by as_aux_lemma => kernel_rfl) (nofun) (pcclone_spec (H.rp 0 rfl) (by omega)) ?_
      rintro v27 w26 - H'
      have H := H.back (M1 := []) (W1 := []) H'
      obtain ⟨a28, c29, rfl, hc30, hm31⟩ := H.ownForm 0 rfl
      have H : Hp w S [] [(b3, mapO (Value.int .i64) (Value.int .i64) L cl)] [⟨pcS, 72, .slice a28 ps.length c29, ps⟩] [Rp (Shape.slice pcS) [.slice a ps.length c] ps] _ := H
      refine RW.fin 1 [2, 11, 18] [(2, .int .i64 (k : Int)), (11, .int .i64 ((lenOf size k : Nat) : Int)), (18, .slice a28 ps.length c29)] (by as_aux_lemma => kernel_rfl) ?_
      refine WK.run 1 [2, 11, 18] [.code (cd Try.prog 99 [7, 0]), .code (cd Try.prog 99 [8])] [(2, .int .i64 (k : Int)), (11, .int .i64 ((lenOf size k : Nat) : Int)), (18, .slice a28 ps.length c29)] (by as_aux_lemma => kernel_rfl) ?_
      refine WK.reg1 (l := sq 0 2) (by as_aux_lemma => kernel_rfl) (by as_aux_lemma => kernel_rfl) ?_
      refine RW.runP 1 [2, 11, 18, 69] (sq 1 2) [(2, .int .i64 (k : Int)), (11, .int .i64 ((lenOf size k : Nat) : Int)), (18, .slice a28 ps.length c29), (69, .slice a28 ps.length c29)] (by as_aux_lemma => kernel_rfl) (by as_aux_lemma => kernel_rfl) ?_
      obtain ⟨pb, hpb⟩ := H.ownLit (by omega) rfl
      subst hpb
      refine RW.callS (d := some 70) (r := (sq 2 2)) (g := 123) (args := #[.slice (some ⟨pb, 0, none⟩) ps.length c29, .func (.func 124) #[] #[]]) (by as_aux_lemma => kernel_rfl) (sort_pc ((H.lend (M1 := []) (W1 := [⟨pcS, 72, .slice (some ⟨pb, 0, none⟩) ps.length c29, ps⟩])).pick [] rfl) (by omega) (by omega)) ?_
      rintro _ w32 ⟨rfl, ys, hys, hord, H'⟩
      have H := H.back (M1 := []) (W1 := [⟨pcS, 72, .slice (some ⟨pb, 0, none⟩) ps.length c29, ps⟩]) H'
      have hyl := hys.length_eq
      have H := H.reW (ys := ys) (v' := .slice (some ⟨pb, 0, none⟩) ys.length c29) rfl (by rw [hyl])
      rw [show (Value.slice (some ⟨pb, 0, none⟩) ps.length c29) = .slice (some ⟨pb, 0, none⟩) ys.length c29 by rw [hyl]]
      have H : Hp w S [] [(b3, mapO (Value.int .i64) (Value.int .i64) L cl)] [⟨pcS, 72, .slice (some ⟨pb, 0, none⟩) ys.length c29, ys⟩] [Rp (Shape.slice pcS) [.slice a ps.length c] ps] _ := H
      refine RW.fin 0 [2, 11, 18] [(2, .int .i64 (k : Int)), (11, .int .i64 ((lenOf size k : Nat) : Int)), (18, .slice (some ⟨pb, 0, none⟩) ys.length c29)] (by as_aux_lemma => kernel_rfl) ?_
      refine WK.run 1 [2, 11, 18] [.code (cd Try.prog 99 [8, 0]), .code (cd Try.prog 99 [9])] [(2, .int .i64 (k : Int)), (11, .int .i64 ((lenOf size k : Nat) : Int)), (18, .slice (some ⟨pb, 0, none⟩) ys.length c29)] (by as_aux_lemma => kernel_rfl) ?_
      refine WK.reg1 (l := sq 0 7) (by as_aux_lemma => kernel_rfl) (by as_aux_lemma => kernel_rfl) ?_
      refine RW.runP 2 [11, 71, 72] (sq 2 7) [(11, .int .i64 ((lenOf size k : Nat) : Int)), (71, .slice (some ⟨pb, 0, none⟩) ys.length c29), (72, .int .i64 (k : Int))] (by as_aux_lemma => kernel_rfl) (by as_aux_lemma => kernel_rfl) ?_
      have H : Hp w S [] [(b3, mapO (Value.int .i64) (Value.int .i64) L cl)] [] [Rp (Shape.slice pcS) [.slice (some ⟨pb, 0, none⟩) ys.length c29] ys, Rp (Shape.slice pcS) [.slice a ps.length c] ps] _ := H.freezeW 0 rfl
      refine RW.slice (κ := .seq) (d := some 73) (r := (sq 3 7)) (T := 70) (e := 72) (sh := pcS) (a := (some ⟨pb, 0, none⟩)) (len := ys.length) (cap := c29) (zs := (ys.take k)) (lv := none) (hv := (some (.int .i64 (k : Int)))) (by as_aux_lemma => kernel_rfl) (by as_aux_lemma => kernel_rfl) H 0 rfl 0 k .nil (.mk (by omega)) (by omega) (by omega) (by rw [List.drop_zero]) ?_
      intro a33 H
      refine RW.fin 4 [8, 9, 10] [(8, .slice a33 ((ys.take k).length) c29), (9, .int .i64 ((lenOf size k : Nat) : Int)), (10, .int .i64 0)] (by as_aux_lemma => kernel_rfl) ?_
      refine WK.ret (v := .tuple #[.slice a33 ((ys.take k).length) c29, .int .i64 ((lenOf size k : Nat) : Int), .int .i64 0]) Try.func99 (by as_aux_lemma => kernel_rfl) (by as_aux_lemma => kernel_rfl) ?_
      exact ⟨_, rfl, H.done, _, _, ys, rfl, hys, hord, H.out (H.rp 0 rfl)⟩

theorem chosen_few {S : Nat → Prop} {w : World} {ps : List Pc} {a : Option Addr} {c : Nat} (h : (Shape.slice pcS).rep S w [.slice a ps.length c] ps) {size k n : Nat} (hs : size ≤ 65536) (hk : 1 ≤ k) (hkn : k ≤ n) (hn : n ≤ 255) (hok : PsOk ps n (lenOf size k)) (hlen : ps.length < k) :
    Calls Try.prog 99 #[.slice a ps.length c, .int .i64 (size : Int), .int .i64 (k : Int), .int .i64 (n : Int)] w (Ret fun v w' => Ext w w' ∧ v = .tuple #[.slice none 0 0, .int .i64 0, .int .i64 30]) := by
  have hpl := Shape.slice_len h
  have hple := hok.le
  refine WK.calls1 (fn := Try.f99) (n := 75) (σ := [(0, .slice a ps.length c), (1, .int .i64 (size : Int)), (2, .int .i64 (k : Int)), (3, .int .i64 (n : Int))]) Try.func99 rfl (by as_aux_lemma => kernel_rfl) (by as_aux_lemma => kernel_rfl) (by as_aux_lemma => kernel_rfl) ?_
  have H := Hp.startF (w := w) (S := S) (G := [Rp (Shape.slice pcS) [.slice a ps.length c] ps]) (.rp h .nil)
  refine WK.run 3 [0, 1, 2, 3] [.code (cd Try.prog 99 [1, 0]), .code (cd Try.prog 99 [2])] [(0, .slice a ps.length c), (1, .int .i64 (size : Int)), (2, .int .i64 (k : Int)), (3, .int .i64 (n : Int))] (by as_aux_lemma => kernel_rfl) ?_
  refine WK.reg1 (l := sq 0 9) (by as_aux_lemma => kernel_rfl) (by as_aux_lemma => kernel_rfl) ?_
  refine RW.runP 3 [0, 2, 3, 20, 21, 22] (sq 3 9) [(0, .slice a ps.length c), (2, .int .i64 (k : Int)), (3, .int .i64 (n : Int)), (20, .int .i64 (size : Int)), (21, .int .i64 (k : Int)), (22, .int .i64 (n : Int))] (by as_aux_lemma => kernel_rfl) (by as_aux_lemma => kernel_rfl) ?_
  refine RW.call (κ := .seq) (d := some 23) (r := (sq 4 9)) (g := 66) (args := #[.int .i64 (size : Int), .int .i64 (k : Int), .int .i64 (n : Int)]) (by as_aux_lemma => kernel_rfl) (nofun) (sizes_ok (S := fun _ => True) size k n (by omega) (by omega) (by omega) (by omega)) ?_
  rintro _ w1 hE2 rfl
  have H := H.ext hE2
  refine RW.fin 5 [0, 2, 3, 11, 12] [(0, .slice a ps.length c), (2, .int .i64 (k : Int)), (3, .int .i64 (n : Int)), (11, .int .i64 ((lenOf size k : Nat) : Int)), (12, .int .i64 0)] (by as_aux_lemma => kernel_rfl) ?_
  refine WK.run 6 [0, 2, 3, 11] [.code (cd Try.prog 99 [3, 0]), .code (cd Try.prog 99 [4])] [(0, .slice a ps.length c), (2, .int .i64 (k : Int)), (3, .int .i64 (n : Int)), (11, .int .i64 ((lenOf size k : Nat) : Int))] (by as_aux_lemma => kernel_rfl) ?_
  refine WK.reg1 (l := sq 0 2) (by as_aux_lemma => kernel_rfl) (by as_aux_lemma => kernel_rfl) ?_
  refine RW.new (κ := .seq) (d := some 29) (r := (sq 1 2)) (o := mapO (Value.int .i64) (Value.int .i64) ([] : List (Int × Int × Nat)) 0) (v := fun b_ => .map (some b_)) (fun _ => by as_aux_lemma => kernel_rfl) (nofun) H ?_
  intro b3 w4 H
  refine RW.fin 1 [0, 2, 3, 11, 13] [(0, .slice a ps.length c), (2, .int .i64 (k : Int)), (3, .int .i64 (n : Int)), (11, .int .i64 ((lenOf size k : Nat) : Int)), (13, .map (some b3))] (by as_aux_lemma => kernel_rfl) ?_
  refine WK.run 4 [0, 2, 3, 11, 13, 30, 31, 32] [.code (cd Try.prog 99 [4, 0, 1, 0]), .inBlock 0, .code (cd Try.prog 99 [5])] [(0, .slice a ps.length c), (2, .int .i64 (k : Int)), (3, .int .i64 (n : Int)), (11, .int .i64 ((lenOf size k : Nat) : Int)), (13, .map (some b3)), (30, .slice a ps.length c), (31, .int .i64 ((ps.length : Nat) : Int)), (32, .int .i64 0)] (by as_aux_lemma => kernel_rfl) ?_
  refine WK.loop (α := Nat × List (Int × Int × Nat) × Nat) (b := cd Try.prog 99 [4, 0, 1, 0, 0]) (by as_aux_lemma => kernel_rfl) (fun st_ => match st_ with | (i, L, cl) => [(0, .slice a ps.length c), (2, .int .i64 (k : Int)), (3, .int .i64 (n : Int)), (11, .int .i64 ((lenOf size k : Nat) : Int)), (13, .map (some b3)), (30, .slice a ps.length c), (31, .int .i64 ((ps.length : Nat) : Int)), (32, .int .i64 (i : Int))]) (fun st_ w' => match st_ with | (i, L, cl) => Hp w S [] [(b3, mapO (Value.int .i64) (Value.int .i64) L cl)] [] [Rp (Shape.slice pcS) [.slice a ps.length c] ps] w' ∧ i ≤ ps.length ∧ L.map (·.1) = (ps.take i).map Pc.index) (fun st_ => match st_ with | (i, L, cl) => ps.length - i) (0, ([] : List (Int × Int × Nat)), 0) ⟨H, Nat.zero_le _, rfl⟩ (rfl) ?_
  rintro ⟨i, L, cl⟩ w6 ⟨H, hinv0⟩ hback5
  refine WK.run 3 [0, 2, 3, 11, 13, 30, 31, 32, 33] [.code (cd Try.prog 99 [4, 0, 1, 0, 0, 1, 0]), .code (cd Try.prog 99 [4, 0, 1, 0, 0, 2]), .inLoop (cd Try.prog 99 [4, 0, 1, 0, 0]), .inBlock 0, .code (cd Try.prog 99 [5])] [(0, .slice a ps.length c), (2, .int .i64 (k : Int)), (3, .int .i64 (n : Int)), (11, .int .i64 ((lenOf size k : Nat) : Int)), (13, .map (some b3)), (30, .slice a ps.length c), (31, .int .i64 ((ps.length : Nat) : Int)), (32, .int .i64 (i : Int)), (33, .bool (decide (((i : Int) : Int) < ((ps.length : Nat) : Int))))] (by as_aux_lemma => kernel_rfl) ?_
  refine WK.cond1 (decide (((i : Int) : Int) < ((ps.length : Nat) : Int))) (by as_aux_lemma => kernel_rfl) (by as_aux_lemma => kernel_rfl) (fun h7 => ?_) (fun h7 => ?_)
  · skip
    replace h7 := of_decide_eq_true h7
    have hpi : ps[i] ∈ ps := List.getElem_mem (by omega)
    have hri := hok.rng _ hpi
    have hli := hok.len _ hpi
    have hfi : mfind (ps[i]).index L = none := mfind_none.2 (by rw [hinv0.2]; exact PsOk.fresh hok (by omega))
    have hfs : (mfind (ps[i]).index L).isSome = false := by rw [hfi]; rfl
    refine WK.run 4 [0, 2, 3, 11, 13, 30, 31, 32] [.code (cd Try.prog 99 [4, 0, 1, 0, 0, 2, 0, 0, 0]), .code (cd Try.prog 99 [4, 0, 1, 0, 0, 2, 0, 0, 1]), .inBlock 1, .code (cd Try.prog 99 [4, 0, 1, 0, 0, 3]), .inLoop (cd Try.prog 99 [4, 0, 1, 0, 0]), .inBlock 0, .code (cd Try.prog 99 [5])] [(0, .slice a ps.length c), (2, .int .i64 (k : Int)), (3, .int .i64 (n : Int)), (11, .int .i64 ((lenOf size k : Nat) : Int)), (13, .map (some b3)), (30, .slice a ps.length c), (31, .int .i64 ((ps.length : Nat) : Int)), (32, .int .i64 (i : Int))] (by as_aux_lemma => kernel_rfl) ?_
    refine WK.reg1 (l := sq 0 4) (by as_aux_lemma => kernel_rfl) (by as_aux_lemma => kernel_rfl) ?_
    have hx8 : i < ps.length := by omega
    refine RW.index (κ := .seq) (d := some 34) (r := (sq 1 4)) (T := 70) (e := 72) (ik := .i64) (ix := (i : Int)) (sh := pcS) (x := ps[i]) (by as_aux_lemma => kernel_rfl) (by as_aux_lemma => kernel_rfl) H 0 rfl i (by omega) (List.getElem?_eq_getElem hx8) ?_
    intro b9 o10 es11 hr12 H
    obtain ⟨a1q13, k1q13, rfl, hf14, hf15⟩ := pc_open hr12
    have H := H.add (F := Rp (Shape.slice (Shape.bv .u8 8)) [.slice a1q13 ((ps[i]).data.length) k1q13] ((ps[i]).data)) hf15
    refine RW.load (κ := .seq) (d := some 35) (r := (sq 2 4)) (T := 72) (b := b9) (o' := o10) (k := 0) (v := .agg #[.int .i64 ((ps[i]).index), .slice a1q13 ((ps[i]).data.length) k1q13]) (by as_aux_lemma => kernel_rfl) (H.fc 1 rfl) rfl (by as_aux_lemma => kernel_rfl) ?_
    refine RW.new (κ := .seq) (d := some 15) (r := (sq 3 4)) (o := .cells #[.int .i64 0, .slice none 0 0] 72 (0, 0)) (v := fun b => .pointer (some ⟨b, 0, none⟩)) (fun b => by as_aux_lemma => kernel_rfl) (nofun) H ?_
    intro b16 w17 H
    refine RW.store (d := none) (r := (sq 4 4)) (T := 72) (b := b16) (k := 0) (v := .agg #[.int .i64 ((ps[i]).index), .slice a1q13 ((ps[i]).data.length) k1q13]) (c' := #[.int .i64 ((ps[i]).index), .slice a1q13 ((ps[i]).data.length) k1q13]) (M' := [(b16, .cells #[.int .i64 ((ps[i]).index), .slice a1q13 ((ps[i]).data.length) k1q13] 72 (0, 0)), (b3, mapO (Value.int .i64) (Value.int .i64) L cl)]) (by as_aux_lemma => kernel_rfl) H 0 rfl (by as_aux_lemma => kernel_rfl) (by as_aux_lemma => kernel_rfl) ?_
    intro w18 H
    refine RW.fin 0 [0, 2, 3, 11, 13, 15, 30, 31, 32] [(0, .slice a ps.length c), (2, .int .i64 (k : Int)), (3, .int .i64 (n : Int)), (11, .int .i64 ((lenOf size k : Nat) : Int)), (13, .map (some b3)), (15, .pointer (some ⟨b16, 0, none⟩)), (30, .slice a ps.length c), (31, .int .i64 ((ps.length : Nat) : Int)), (32, .int .i64 (i : Int))] (by as_aux_lemma => kernel_rfl) ?_
    refine WK.run 2 [0, 2, 3, 11, 13, 15, 30, 31, 32] [.code (cd Try.prog 99 [4, 0, 1, 0, 0, 2, 0, 0, 1, 0, 0]), .code (cd Try.prog 99 [4, 0, 1, 0, 0, 2, 0, 0, 1, 0, 1]), .code (cd Try.prog 99 [4, 0, 1, 0, 0, 2, 0, 0, 2]), .inBlock 1, .code (cd Try.prog 99 [4, 0, 1, 0, 0, 3]), .inLoop (cd Try.prog 99 [4, 0, 1, 0, 0]), .inBlock 0, .code (cd Try.prog 99 [5])] [(0, .slice a ps.length c), (2, .int .i64 (k : Int)), (3, .int .i64 (n : Int)), (11, .int .i64 ((lenOf size k : Nat) : Int)), (13, .map (some b3)), (15, .pointer (some ⟨b16, 0, none⟩)), (30, .slice a ps.length c), (31, .int .i64 ((ps.length : Nat) : Int)), (32, .int .i64 (i : Int))] (by as_aux_lemma => kernel_rfl) ?_
    refine WK.reg1 (l := sq 0 9) (by as_aux_lemma => kernel_rfl) (by as_aux_lemma => kernel_rfl) ?_
    refine RW.runP 2 [0, 2, 3, 11, 13, 15, 30, 31, 32, 37, 38] (sq 2 9) [(0, .slice a ps.length c), (2, .int .i64 (k : Int)), (3, .int .i64 (n : Int)), (11, .int .i64 ((lenOf size k : Nat) : Int)), (13, .map (some b3)), (15, .pointer (some ⟨b16, 0, none⟩)), (30, .slice a ps.length c), (31, .int .i64 ((ps.length : Nat) : Int)), (32, .int .i64 (i : Int)), (37, .map (some b3)), (38, .pointer (some ⟨b16, 0, none⟩))] (by as_aux_lemma => kernel_rfl) (by as_aux_lemma => kernel_rfl) ?_
    refine RW.load (κ := .seq) (d := some 39) (r := (sq 3 9)) (T := 3) (b := b16) (o' := 0) (k := 0) (v := .int .i64 ((ps[i]).index)) (by as_aux_lemma => kernel_rfl) (H.cells 0 rfl) rfl (by as_aux_lemma => kernel_rfl) ?_
    refine RW.mapGet (κ := .seq) (d := some 40) (r := (sq 4 9)) (T := 200) (mk := (Value.int .i64)) (vk := (Value.int .i64)) (Kt := 3) (E := 3) (z := 0) ((ps[i]).index) true (by as_aux_lemma => kernel_rfl) H 1 rfl (KeyOk.int (by as_aux_lemma => kernel_rfl)) (by as_aux_lemma => kernel_rfl) (fun w_ => zeroE_run (by as_aux_lemma => kernel_rfl) w_) ?_
    refine RW.fin 5 [0, 2, 3, 11, 13, 15, 17, 30, 31, 32] [(0, .slice a ps.length c), (2, .int .i64 (k : Int)), (3, .int .i64 (n : Int)), (11, .int .i64 ((lenOf size k : Nat) : Int)), (13, .map (some b3)), (15, .pointer (some ⟨b16, 0, none⟩)), (17, .bool ((mfind ((ps[i]).index) L).isSome)), (30, .slice a ps.length c), (31, .int .i64 ((ps.length : Nat) : Int)), (32, .int .i64 (i : Int))] (by as_aux_lemma => kernel_rfl) ?_
    refine WK.run 1 [0, 2, 3, 11, 13, 15, 17, 30, 31, 32] [.code (cd Try.prog 99 [4, 0, 1, 0, 0, 2, 0, 0, 1, 0, 1, 0]), .code (cd Try.prog 99 [4, 0, 1, 0, 0, 2, 0, 0, 1, 0, 2]), .code (cd Try.prog 99 [4, 0, 1, 0, 0, 2, 0, 0, 2]), .inBlock 1, .code (cd Try.prog 99 [4, 0, 1, 0, 0, 3]), .inLoop (cd Try.prog 99 [4, 0, 1, 0, 0]), .inBlock 0, .code (cd Try.prog 99 [5])] [(0, .slice a ps.length c), (2, .int .i64 (k : Int)), (3, .int .i64 (n : Int)), (11, .int .i64 ((lenOf size k : Nat) : Int)), (13, .map (some b3)), (15, .pointer (some ⟨b16, 0, none⟩)), (17, .bool ((mfind ((ps[i]).index) L).isSome)), (30, .slice a ps.length c), (31, .int .i64 ((ps.length : Nat) : Int)), (32, .int .i64 (i : Int))] (by as_aux_lemma => kernel_rfl) ?_
    refine WK.reg1 (l := sq 0 16) (by as_aux_lemma => kernel_rfl) (by as_aux_lemma => kernel_rfl) ?_
    refine RW.runP 2 [0, 2, 3, 11, 13, 15, 30, 31, 32, 44] (sq 2 16) [(0, .slice a ps.length c), (2, .int .i64 (k : Int)), (3, .int .i64 (n : Int)), (11, .int .i64 ((lenOf size k : Nat) : Int)), (13, .map (some b3)), (15, .pointer (some ⟨b16, 0, none⟩)), (30, .slice a ps.length c), (31, .int .i64 ((ps.length : Nat) : Int)), (32, .int .i64 (i : Int)), (44, .bool ((mfind ((ps[i]).index) L).isSome))] (by as_aux_lemma => kernel_rfl) (by as_aux_lemma => kernel_rfl) ?_
    refine RW.test (fun b_ => [(0, .slice a ps.length c), (2, .int .i64 (k : Int)), (3, .int .i64 (n : Int)), (11, .int .i64 ((lenOf size k : Nat) : Int)), (13, .map (some b3)), (15, .pointer (some ⟨b16, 0, none⟩)), (30, .slice a ps.length c), (31, .int .i64 ((ps.length : Nat) : Int)), (32, .int .i64 (i : Int)), (44, .bool b_)]) ((mfind ((ps[i]).index) L).isSome) (fun h19 => ?_) (fun h19 => ?_)
    · skip
      rw [hfs] at h19; cases h19
    · skip
      refine RW.runP 1 [0, 2, 3, 11, 13, 15, 30, 31, 32, 44, 45] (sq 3 16) [(0, .slice a ps.length c), (2, .int .i64 (k : Int)), (3, .int .i64 (n : Int)), (11, .int .i64 ((lenOf size k : Nat) : Int)), (13, .map (some b3)), (15, .pointer (some ⟨b16, 0, none⟩)), (30, .slice a ps.length c), (31, .int .i64 ((ps.length : Nat) : Int)), (32, .int .i64 (i : Int)), (44, .bool false), (45, .pointer (some ⟨b16, 0, none⟩))] (by as_aux_lemma => kernel_rfl) (by as_aux_lemma => kernel_rfl) ?_
      refine RW.load (κ := .seq) (d := some 46) (r := (sq 4 16)) (T := 3) (b := b16) (o' := 0) (k := 0) (v := .int .i64 ((ps[i]).index)) (by as_aux_lemma => kernel_rfl) (H.cells 0 rfl) rfl (by as_aux_lemma => kernel_rfl) ?_
      refine RW.runP 1 [0, 2, 3, 11, 13, 15, 30, 31, 32, 44, 46, 47] (sq 5 16) [(0, .slice a ps.length c), (2, .int .i64 (k : Int)), (3, .int .i64 (n : Int)), (11, .int .i64 ((lenOf size k : Nat) : Int)), (13, .map (some b3)), (15, .pointer (some ⟨b16, 0, none⟩)), (30, .slice a ps.length c), (31, .int .i64 ((ps.length : Nat) : Int)), (32, .int .i64 (i : Int)), (44, .bool false), (46, .int .i64 ((ps[i]).index)), (47, .int .i64 (n : Int))] (by as_aux_lemma => kernel_rfl) (by as_aux_lemma => kernel_rfl) ?_
      refine RW.wr64 (κ := .seq) (d := some 48) (r := (sq 6 16)) (t := (n : Int) - 1) (by as_aux_lemma => kernel_rfl) (by omega) ?_
      refine RW.call (κ := .seq) (d := some 49) (r := (sq 7 16)) (g := 71) (args := #[.int .i64 ((ps[i]).index), .int .i64 0, .int .i64 ((n : Int) - 1)]) (by as_aux_lemma => kernel_rfl) (nofun) (between_spec (S := fun _ => True) ((ps[i]).index) 0 ((n : Int) - 1)) ?_
      rintro _ w20 hE21 rfl
      have H := H.ext hE21
      refine RW.runP 3 [0, 2, 3, 11, 13, 15, 30, 31, 32, 52] (sq 10 16) [(0, .slice a ps.length c), (2, .int .i64 (k : Int)), (3, .int .i64 (n : Int)), (11, .int .i64 ((lenOf size k : Nat) : Int)), (13, .map (some b3)), (15, .pointer (some ⟨b16, 0, none⟩)), (30, .slice a ps.length c), (31, .int .i64 ((ps.length : Nat) : Int)), (32, .int .i64 (i : Int)), (52, .bool (!(decide (0 ≤ (ps[i]).index ∧ (ps[i]).index ≤ (n : Int) - 1))))] (by as_aux_lemma => kernel_rfl) (by as_aux_lemma => kernel_rfl) ?_
      refine RW.test (fun b_ => [(0, .slice a ps.length c), (2, .int .i64 (k : Int)), (3, .int .i64 (n : Int)), (11, .int .i64 ((lenOf size k : Nat) : Int)), (13, .map (some b3)), (15, .pointer (some ⟨b16, 0, none⟩)), (30, .slice a ps.length c), (31, .int .i64 ((ps.length : Nat) : Int)), (32, .int .i64 (i : Int)), (52, .bool b_)]) (!(decide (0 ≤ (ps[i]).index ∧ (ps[i]).index ≤ (n : Int) - 1))) (fun h22 => ?_) (fun h22 => ?_)
      · skip
        replace h22 : (decide (0 ≤ (ps[i]).index ∧ (ps[i]).index ≤ (n : Int) - 1)) = false := by revert h22; cases (decide (0 ≤ (ps[i]).index ∧ (ps[i]).index ≤ (n : Int) - 1)) <;> simp
        replace h22 := of_decide_eq_false h22
        omega
      · skip
        replace h22 : (decide (0 ≤ (ps[i]).index ∧ (ps[i]).index ≤ (n : Int) - 1)) = true := by revert h22; cases (decide (0 ≤ (ps[i]).index ∧ (ps[i]).index ≤ (n : Int) - 1)) <;> simp
        replace h22 := of_decide_eq_true h22
        refine RW.runP 1 [0, 2, 3, 11, 13, 15, 30, 31, 32, 52, 53] (sq 11 16) [(0, .slice a ps.length c), (2, .int .i64 (k : Int)), (3, .int .i64 (n : Int)), (11, .int .i64 ((lenOf size k : Nat) : Int)), (13, .map (some b3)), (15, .pointer (some ⟨b16, 0, none⟩)), (30, .slice a ps.length c), (31, .int .i64 ((ps.length : Nat) : Int)), (32, .int .i64 (i : Int)), (52, .bool false), (53, .pointer (some ⟨b16, 1, none⟩))] (by as_aux_lemma => kernel_rfl) (by as_aux_lemma => kernel_rfl) ?_
        refine RW.load (κ := .seq) (d := some 54) (r := (sq 12 16)) (T := 23) (b := b16) (o' := 1) (k := 1) (v := .slice a1q13 ((ps[i]).data.length) k1q13) (by as_aux_lemma => kernel_rfl) (H.cells 0 rfl) rfl (by as_aux_lemma => kernel_rfl) ?_
        refine RW.fin 4 [0, 2, 3, 11, 13, 15, 30, 31, 32, 58] [(0, .slice a ps.length c), (2, .int .i64 (k : Int)), (3, .int .i64 (n : Int)), (11, .int .i64 ((lenOf size k : Nat) : Int)), (13, .map (some b3)), (15, .pointer (some ⟨b16, 0, none⟩)), (30, .slice a ps.length c), (31, .int .i64 ((ps.length : Nat) : Int)), (32, .int .i64 (i : Int)), (58, .bool ((((ps[i]).data.length : Nat) : Int) != ((lenOf size k : Nat) : Int)))] (by as_aux_lemma => kernel_rfl) ?_
        refine WK.cond1 ((((ps[i]).data.length : Nat) : Int) != ((lenOf size k : Nat) : Int)) (by as_aux_lemma => kernel_rfl) (by as_aux_lemma => kernel_rfl) (fun h23 => ?_) (fun h23 => ?_)
        · skip
          replace h23 := bne_iff_ne.1 h23
          omega
        · skip
          replace h23 := (bne_eq_false_iff_eq.1 h23)
          refine WK.run 1 [0, 2, 3, 11, 13, 15, 30, 31, 32] [.code (cd Try.prog 99 [4, 0, 1, 0, 0, 2, 0, 0, 2]), .inBlock 1, .code (cd Try.prog 99 [4, 0, 1, 0, 0, 3]), .inLoop (cd Try.prog 99 [4, 0, 1, 0, 0]), .inBlock 0, .code (cd Try.prog 99 [5])] [(0, .slice a ps.length c), (2, .int .i64 (k : Int)), (3, .int .i64 (n : Int)), (11, .int .i64 ((lenOf size k : Nat) : Int)), (13, .map (some b3)), (15, .pointer (some ⟨b16, 0, none⟩)), (30, .slice a ps.length c), (31, .int .i64 ((ps.length : Nat) : Int)), (32, .int .i64 (i : Int))] (by as_aux_lemma => kernel_rfl) ?_
          refine WK.reg1 (l := sq 0 4) (by as_aux_lemma => kernel_rfl) (by as_aux_lemma => kernel_rfl) ?_
          refine RW.runP 2 [0, 2, 3, 11, 13, 30, 31, 32, 59, 60] (sq 2 4) [(0, .slice a ps.length c), (2, .int .i64 (k : Int)), (3, .int .i64 (n : Int)), (11, .int .i64 ((lenOf size k : Nat) : Int)), (13, .map (some b3)), (30, .slice a ps.length c), (31, .int .i64 ((ps.length : Nat) : Int)), (32, .int .i64 (i : Int)), (59, .map (some b3)), (60, .pointer (some ⟨b16, 0, none⟩))] (by as_aux_lemma => kernel_rfl) (by as_aux_lemma => kernel_rfl) ?_
          refine RW.load (κ := .seq) (d := some 61) (r := (sq 3 4)) (T := 3) (b := b16) (o' := 0) (k := 0) (v := .int .i64 ((ps[i]).index)) (by as_aux_lemma => kernel_rfl) (H.cells 0 rfl) rfl (by as_aux_lemma => kernel_rfl) ?_
          refine RW.mapSet (d := none) (r := (sq 4 4)) (T := 200) (mk := (Value.int .i64)) (vk := (Value.int .i64)) (Kt := 3) (E := 3) (M' := [(b16, .cells #[.int .i64 ((ps[i]).index), .slice a1q13 ((ps[i]).data.length) k1q13] 72 (0, 0)), (b3, mapO (Value.int .i64) (Value.int .i64) (mset ((ps[i]).index) 1 cl L) (mclk ((ps[i]).index) cl L))]) ((ps[i]).index) 1 (by as_aux_lemma => kernel_rfl) H 1 rfl (KeyOk.int (by as_aux_lemma => kernel_rfl)) (by as_aux_lemma => kernel_rfl) rfl ?_
          intro w24 hCw24 H
          refine RW.fin 0 [0, 2, 3, 11, 13, 30, 31, 32] [(0, .slice a ps.length c), (2, .int .i64 (k : Int)), (3, .int .i64 (n : Int)), (11, .int .i64 ((lenOf size k : Nat) : Int)), (13, .map (some b3)), (30, .slice a ps.length c), (31, .int .i64 ((ps.length : Nat) : Int)), (32, .int .i64 (i : Int))] (by as_aux_lemma => kernel_rfl) ?_
          refine WK.run 1 [0, 2, 3, 11, 13, 30, 31, 32] [.code (cd Try.prog 99 [4, 0, 1, 0, 0, 3]), .inLoop (cd Try.prog 99 [4, 0, 1, 0, 0]), .inBlock 0, .code (cd Try.prog 99 [5])] [(0, .slice a ps.length c), (2, .int .i64 (k : Int)), (3, .int .i64 (n : Int)), (11, .int .i64 ((lenOf size k : Nat) : Int)), (13, .map (some b3)), (30, .slice a ps.length c), (31, .int .i64 ((ps.length : Nat) : Int)), (32, .int .i64 (i : Int))] (by as_aux_lemma => kernel_rfl) ?_
          refine WK.reg1 (l := sq 0 2) (by as_aux_lemma => kernel_rfl) (by as_aux_lemma => kernel_rfl) ?_
          refine RW.wr64 (κ := .seq) (d := some 62) (r := (sq 1 2)) (t := (i : Int) + 1) (by as_aux_lemma => kernel_rfl) (by omega) ?_
          refine RW.fin 1 [0, 2, 3, 11, 13, 30, 31, 32] [(0, .slice a ps.length c), (2, .int .i64 (k : Int)), (3, .int .i64 (n : Int)), (11, .int .i64 ((lenOf size k : Nat) : Int)), (13, .map (some b3)), (30, .slice a ps.length c), (31, .int .i64 ((ps.length : Nat) : Int)), (32, .int .i64 ((i : Int) + 1))] (by as_aux_lemma => kernel_rfl) ?_
          have H := H.pick [2] (G' := [Rp (Shape.slice pcS) [.slice a ps.length c] ps]) rfl
          have H := H.perms (M' := [(b3, mapO (Value.int .i64) (Value.int .i64) (mset ((ps[i]).index) 1 cl L) (mclk ((ps[i]).index) cl L)), (b16, .cells #[.int .i64 ((ps[i]).index), .slice a1q13 ((ps[i]).data.length) k1q13] 72 (0, 0))]) (W' := []) (List.perm_middle (l₁ := ([(b16, .cells #[.int .i64 ((ps[i]).index), .slice a1q13 ((ps[i]).data.length) k1q13] 72 (0, 0))] : Heap))).symm (List.Perm.refl _)
          have H := H.drop (M' := [(b3, mapO (Value.int .i64) (Value.int .i64) (mset ((ps[i]).index) 1 cl L) (mclk ((ps[i]).index) cl L))]) (W' := []) (by repeat (first | exact List.Sublist.refl _ | apply List.Sublist.cons_cons | apply List.Sublist.cons)) (by repeat (first | exact List.Sublist.refl _ | apply List.Sublist.cons_cons | apply List.Sublist.cons))
          exact WK.back (hback5 (i + 1, mset ((ps[i]).index) 1 cl L, mclk ((ps[i]).index) cl L) _ ⟨H, by omega, by rw [mset_keys, if_neg (by rw [hinv0.2]; exact PsOk.fresh hok (by omega)), hinv0.2, List.take_succ_eq_append_getElem (by omega), List.map_append]; rfl⟩ (by simp only []; omega)) (by as_aux_lemma => kernel_rfl)
  · skip
    replace h7 := of_decide_eq_false h7
    refine WK.run 4 [0, 2, 11, 66] [.code (cd Try.prog 99 [5, 0, 1]), .code (cd Try.prog 99 [6])] [(0, .slice a ps.length c), (2, .int .i64 (k : Int)), (11, .int .i64 ((lenOf size k : Nat) : Int)), (66, .bool (decide ((((ps.length : Nat) : Int) : Int) < (k : Int))))] (by as_aux_lemma => kernel_rfl) ?_
    refine WK.cond1 (decide ((((ps.length : Nat) : Int) : Int) < (k : Int))) (by as_aux_lemma => kernel_rfl) (by as_aux_lemma => kernel_rfl) (fun h25 => ?_) (fun h25 => ?_)
    · skip
      replace h25 := of_decide_eq_true h25
      refine WK.run 2 [8, 9, 10] [.code (cd Try.prog 99 [5, 0, 1, 0, 1]), .code (cd Try.prog 99 [6])] [(8, .slice none 0 0), (9, .int .i64 0), (10, .int .i64 30)] (by as_aux_lemma => kernel_rfl) ?_
      refine WK.ret (v := .tuple #[.slice none 0 0, .int .i64 0, .int .i64 30]) Try.func99 (by as_aux_lemma => kernel_rfl) (by as_aux_lemma => kernel_rfl) ?_
      exact ⟨_, rfl, H.done, rfl⟩
    · skip
      replace h25 := of_decide_eq_false h25
      omega


end Go.Proofs.Ytppcdmbkgficiaa
