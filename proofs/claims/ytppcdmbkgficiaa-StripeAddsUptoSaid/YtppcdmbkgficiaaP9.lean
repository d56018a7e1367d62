import Derived.Test.YtppcdmbkgficiaaP8
namespace Go.Proofs.Ytppcdmbkgficiaa
open Go.BX

def xorL (xs ys : List (BitVec 8)) : List (BitVec 8) := List.zipWith (fun x y => x ^^^ y) xs ys
theorem xorL_len {xs ys : List (BitVec 8)} (h : xs.length = ys.length) : (xorL xs ys).length = xs.length := by
  unfold xorL
  rw [List.length_zipWith, ← h, Nat.min_self]
theorem xorL_get? {xs ys : List (BitVec 8)} {i : Nat} (h : i < xs.length) (h2 : i < ys.length) : (xorL xs ys)[i]? = some (xs[i] ^^^ ys[i]) := by
  unfold xorL
  rw [List.getElem?_zipWith, List.getElem?_eq_getElem h, List.getElem?_eq_getElem h2]
theorem xorL_rep (n : Nat) : xorL (List.replicate n 0#8) (List.replicate n 0#8) = List.replicate n 0#8 := by
  unfold xorL
  rw [List.zipWith_replicate']
  rfl
theorem chunk_xor {xs ys : List (BitVec 8)} (h : xs.length = ys.length) (l i : Nat) : chunk (xorL xs ys) l i = xorL (chunk xs l i) (chunk ys l i) := by
  unfold chunk
  rw [xorL_len h, ← h]
  unfold xorL
  rw [List.zipWith_append (by simp; omega), List.drop_zipWith, List.take_zipWith, ← xorL, ← xorL, xorL_rep]
theorem mixL_xor (c : BitVec 8) : ∀ {a1 a2 d1 d2 : List (BitVec 8)}, a1.length = a2.length → d1.length = a1.length → d2.length = a1.length → mixL (xorL a1 a2) (xorL d1 d2) c = xorL (mixL a1 d1 c) (mixL a2 d2 c)
  | [], [], [], [], _, _, _ => rfl
  | _ :: _, _ :: _, _ :: _, _ :: _, h1, h2, h3 => by
    have ih := mixL_xor c (Nat.succ.inj h1) (Nat.succ.inj h2) (Nat.succ.inj h3)
    unfold xorL mixL at ih ⊢
    simp only [List.zipWith_cons_cons]
    rw [ih, gmul_xor]
    congr 1
    ac_rfl
theorem mixAll_xor {l : Nat} : ∀ {row : List (BitVec 8)} {d1 d2 : List (List (BitVec 8))} {a1 a2 : List (BitVec 8)}, d1.length = d2.length → (∀ d ∈ d1, d.length = l) → (∀ d ∈ d2, d.length = l) → a1.length = l → a2.length = l →
    mixAll row (List.zipWith xorL d1 d2) (xorL a1 a2) = xorL (mixAll row d1 a1) (mixAll row d2 a2)
  | [], _, _, _, _, _, _, _, _, _ => by simp only [mixAll]
  | _ :: _, [], [], _, _, _, _, _, _, _ => by simp only [mixAll, List.zipWith_nil_left]
  | c :: row, x :: d1, y :: d2, a1, a2, h, h1, h2, e1, e2 => by
    have hx := h1 x (List.mem_cons_self ..)
    have hy := h2 y (List.mem_cons_self ..)
    rw [List.zipWith_cons_cons]
    simp only [mixAll]
    rw [mixL_xor c (e1.trans e2.symm) (hx.trans e1.symm) (hy.trans e1.symm)]
    exact mixAll_xor (Nat.succ.inj h) (fun d hd => h1 d (List.mem_cons_of_mem _ hd)) (fun d hd => h2 d (List.mem_cons_of_mem _ hd)) ((mixL_len (e1.trans hx.symm)).trans e1) ((mixL_len (e2.trans hy.symm)).trans e2)
theorem dataOf_xor {xs ys : List (BitVec 8)} (h : xs.length = ys.length) (l k : Nat) : dataOf (xorL xs ys) l k = List.zipWith xorL (dataOf xs l k) (dataOf ys l k) := by
  unfold dataOf
  rw [List.zipWith_map, List.zipWith_self]
  exact List.map_congr_left fun i _ => chunk_xor h l i
theorem enc_xor {xs ys : List (BitVec 8)} (h : xs.length = ys.length) (k n : Nat) : enc (xorL xs ys) k n = List.zipWith xorL (enc xs k n) (enc ys k n) := by
  unfold enc
  rw [xorL_len h, ← h, List.zipWith_append (by simp [dataOf_len]), dataOf_xor h]
  congr 1
  rw [List.zipWith_map, List.zipWith_self]
  refine List.map_congr_left fun j _ => ?_
  conv => lhs; rw [← xorL_rep]
  exact mixAll_xor (l := lenOf xs.length k) (by rw [dataOf_len, dataOf_len]) (dataOf_all _ _ _) (dataOf_all _ _ _) List.length_replicate List.length_replicate
theorem enc_xor_get {xs ys : List (BitVec 8)} {k n i p : Nat} (h : xs.length = ys.length) (h3 : i < (enc (xorL xs ys) k n).length) (h1 : i < (enc xs k n).length) (h2 : i < (enc ys k n).length) (hp1 : p < ((enc xs k n)[i]).length) (hp2 : p < ((enc ys k n)[i]).length) :
    ((enc (xorL xs ys) k n)[i])[p]? = some (((enc xs k n)[i])[p] ^^^ ((enc ys k n)[i])[p]) := by
  have e : (enc (xorL xs ys) k n)[i]? = some (xorL (enc xs k n)[i] (enc ys k n)[i]) := by
    rw [enc_xor h, List.getElem?_zipWith, List.getElem?_eq_getElem h1, List.getElem?_eq_getElem h2]
  rw [List.getElem?_eq_getElem h3] at e
  rw [Option.some.inj e]
  exact xorL_get? hp1 hp2

theorem adds_len {S : Nat → Prop} {w : World} {xs ys : List (BitVec 8)} {a b : Option Addr} {c d : Nat} (h : (Shape.slice (Shape.bv .u8 8)).rep S w [.slice a xs.length c] xs) (h2 : (Shape.slice (Shape.bv .u8 8)).rep S w [.slice b ys.length d] ys) (k n : Int) (hb : ¬ xs.length = ys.length) :
    Calls Try.prog 6 #[.slice a xs.length c, .slice b ys.length d, .int .i64 k, .int .i64 n] w (Ret fun v w' => Ext w w' ∧ v = .bool true) := by
  refine WK.calls1 (fn := Try.f6) (n := 149) (σ := [(0, .slice a xs.length c), (1, .slice b ys.length d), (2, .int .i64 k), (3, .int .i64 n)]) Try.func6 rfl (by as_aux_lemma => kernel_rfl) (by as_aux_lemma => kernel_rfl) (by as_aux_lemma => kernel_rfl) ?_
  have H := Hp.startF (w := w) (S := S) (G := [Rp (Shape.slice (Shape.bv .u8 8)) [.slice a xs.length c] xs, Rp (Shape.slice (Shape.bv .u8 8)) [.slice b ys.length d] ys]) (.rp h (.rp h2 .nil))
  refine WK.run 5 [0, 1, 2, 3, 23] [.code (cd Try.prog 6 [1, 0, 1]), .code (cd Try.prog 6 [2])] [(0, .slice a xs.length c), (1, .slice b ys.length d), (2, .int .i64 k), (3, .int .i64 n), (23, .bool (((xs.length : Nat) : Int) != ((ys.length : Nat) : Int)))] (by as_aux_lemma => kernel_rfl) ?_
  refine WK.cond1 (((xs.length : Nat) : Int) != ((ys.length : Nat) : Int)) (by as_aux_lemma => kernel_rfl) (by as_aux_lemma => kernel_rfl) (fun h1 => ?_) (fun h1 => ?_)
  · skip
    replace h1 := bne_iff_ne.1 h1
    refine WK.run 1 [] [.code (cd Try.prog 6 [1, 0, 1, 0, 0]), .code (cd Try.prog 6 [1, 0, 1, 0, 1]), .code (cd Try.prog 6 [2])] [] (by as_aux_lemma => kernel_rfl) ?_
    refine WK.reg1 (l := sq 0 2) (by as_aux_lemma => kernel_rfl) (by as_aux_lemma => kernel_rfl) ?_
    refine RW.call (κ := .seq) (d := some 24) (r := (sq 1 2)) (g := 28) (args := #[]) (by as_aux_lemma => kernel_rfl) (nofun) (heads_spec (S := fun _ => True)) ?_
    rintro _ w2 hE3 rfl
    have H := H.ext hE3
    refine RW.fin 1 [8] [(8, .bool true)] (by as_aux_lemma => kernel_rfl) ?_
    refine WK.ret (v := .bool true) Try.func6 (by as_aux_lemma => kernel_rfl) (by as_aux_lemma => kernel_rfl) ?_
    exact ⟨_, rfl, H.done, rfl⟩
  · skip
    replace h1 := (bne_eq_false_iff_eq.1 h1)
    omega

theorem encode_bad4 {S : Nat → Prop} {w : World} {xs : List (BitVec 8)} {a : Option Addr} {c : Nat} (k n : Int) (h : (Shape.slice (Shape.bv .u8 8)).rep S w [.slice a xs.length c] xs) (hb : ¬ (xs.length ≤ 65536 ∧ 1 ≤ k ∧ k ≤ n ∧ n ≤ 255)) :
    Calls Try.prog 29 #[.slice a xs.length c, .int .i64 k, .int .i64 n] w (Ret fun v w' => Ext w w' ∧ v = .tuple #[.slice none 0 0, .int .i64 2]) := by
  refine WK.calls1 (fn := Try.f29) (n := 77) (σ := [(0, .slice a xs.length c), (1, .int .i64 k), (2, .int .i64 n)]) Try.func29 rfl (by as_aux_lemma => kernel_rfl) (by as_aux_lemma => kernel_rfl) (by as_aux_lemma => kernel_rfl) ?_
  have H := Hp.startF (w := w) (S := S) (G := [Rp (Shape.slice (Shape.bv .u8 8)) [.slice a xs.length c] xs]) (.rp h .nil)
  refine WK.run 3 [0, 1, 2] [.code (cd Try.prog 29 [1, 0]), .code (cd Try.prog 29 [2])] [(0, .slice a xs.length c), (1, .int .i64 k), (2, .int .i64 n)] (by as_aux_lemma => kernel_rfl) ?_
  refine WK.reg1 (l := sq 0 10) (by as_aux_lemma => kernel_rfl) (by as_aux_lemma => kernel_rfl) ?_
  refine RW.runP 4 [0, 1, 2, 20, 21, 22] (sq 4 10) [(0, .slice a xs.length c), (1, .int .i64 k), (2, .int .i64 n), (20, .int .i64 ((xs.length : Nat) : Int)), (21, .int .i64 k), (22, .int .i64 n)] (by as_aux_lemma => kernel_rfl) (by as_aux_lemma => kernel_rfl) ?_
  refine RW.call (κ := .seq) (d := some 23) (r := (sq 5 10)) (g := 66) (args := #[.int .i64 ((xs.length : Nat) : Int), .int .i64 k, .int .i64 n]) (by as_aux_lemma => kernel_rfl) (nofun) (sizes_bad (S := fun _ => True) ((xs.length : Nat) : Int) k n (by omega)) ?_
  rintro _ w1 hE2 rfl
  have H := H.ext hE2
  refine RW.fin 5 [0, 1, 2, 8, 9] [(0, .slice a xs.length c), (1, .int .i64 k), (2, .int .i64 n), (8, .int .i64 0), (9, .int .i64 2)] (by as_aux_lemma => kernel_rfl) ?_
  refine WK.run 6 [6, 7] [.code (cd Try.prog 29 [2, 0, 1, 0, 1]), .code (cd Try.prog 29 [3])] [(6, .slice none 0 0), (7, .int .i64 2)] (by as_aux_lemma => kernel_rfl) ?_
  refine WK.ret (v := .tuple #[.slice none 0 0, .int .i64 2]) Try.func29 (by as_aux_lemma => kernel_rfl) (by as_aux_lemma => kernel_rfl) ?_
  exact ⟨_, rfl, H.done, rfl⟩

theorem adds_bad {S : Nat → Prop} {w : World} {xs ys : List (BitVec 8)} {a b : Option Addr} {c d : Nat} (h : (Shape.slice (Shape.bv .u8 8)).rep S w [.slice a xs.length c] xs) (h2 : (Shape.slice (Shape.bv .u8 8)).rep S w [.slice b ys.length d] ys) (k n : Int) (hsz : xs.length ≤ 1048576) (hxy : xs.length = ys.length) (hb : ¬ (xs.length ≤ 65536 ∧ 1 ≤ k ∧ k ≤ n ∧ n ≤ 255)) :
    Calls Try.prog 6 #[.slice a xs.length c, .slice b ys.length d, .int .i64 k, .int .i64 n] w (Ret fun v w' => Ext w w' ∧ v = .bool true) := by
  have hal := Shape.slice_len h
  have hXl := xorL_len hxy
  refine WK.calls1 (fn := Try.f6) (n := 149) (σ := [(0, .slice a xs.length c), (1, .slice b ys.length d), (2, .int .i64 k), (3, .int .i64 n)]) Try.func6 rfl (by as_aux_lemma => kernel_rfl) (by as_aux_lemma => kernel_rfl) (by as_aux_lemma => kernel_rfl) ?_
  have H := Hp.startF (w := w) (S := S) (G := [Rp (Shape.slice (Shape.bv .u8 8)) [.slice a xs.length c] xs, Rp (Shape.slice (Shape.bv .u8 8)) [.slice b ys.length d] ys]) (.rp h (.rp h2 .nil))
  refine WK.run 5 [0, 1, 2, 3, 23] [.code (cd Try.prog 6 [1, 0, 1]), .code (cd Try.prog 6 [2])] [(0, .slice a xs.length c), (1, .slice b ys.length d), (2, .int .i64 k), (3, .int .i64 n), (23, .bool (((xs.length : Nat) : Int) != ((ys.length : Nat) : Int)))] (by as_aux_lemma => kernel_rfl) ?_
  refine WK.cond1 (((xs.length : Nat) : Int) != ((ys.length : Nat) : Int)) (by as_aux_lemma => kernel_rfl) (by as_aux_lemma => kernel_rfl) (fun h1 => ?_) (fun h1 => ?_)
  · skip
    replace h1 := bne_iff_ne.1 h1
    omega
  · skip
    replace h1 := (bne_eq_false_iff_eq.1 h1)
    refine WK.run 7 [0, 1, 2, 3, 9, 10] [.code (cd Try.prog 6 [3, 0, 1, 0]), .inBlock 0, .code (cd Try.prog 6 [4])] [(0, .slice a xs.length c), (1, .slice b ys.length d), (2, .int .i64 k), (3, .int .i64 n), (9, .slice none 0 0), (10, .int .i64 0)] (by as_aux_lemma => kernel_rfl) ?_
    have H := H.ownNil (Shape.bv .u8 8) 5
    have H := H.drop (M' := []) (W' := [⟨Shape.bv .u8 8, 5, .slice none (((xorL xs ys).take 0).length) 0, (xorL xs ys).take 0⟩]) (by repeat (first | exact List.Sublist.refl _ | exact List.nil_sublist _ | apply List.Sublist.cons_cons | apply List.Sublist.cons)) (by repeat (first | exact List.Sublist.refl _ | exact List.nil_sublist _ | apply List.Sublist.cons_cons | apply List.Sublist.cons))
    refine WK.loop (α := Nat × Option Addr × Nat) (b := cd Try.prog 6 [3, 0, 1, 0, 0]) (by as_aux_lemma => kernel_rfl) (fun st_ => match st_ with | (i, ao, co) => [(0, .slice a xs.length c), (1, .slice b ys.length d), (2, .int .i64 k), (3, .int .i64 n), (9, .slice ao (((xorL xs ys).take i).length) co), (10, .int .i64 (i : Int))]) (fun st_ w' => match st_ with | (i, ao, co) => Hp w S [] [] [⟨Shape.bv .u8 8, 5, .slice ao (((xorL xs ys).take i).length) co, (xorL xs ys).take i⟩] [Rp (Shape.slice (Shape.bv .u8 8)) [.slice a xs.length c] xs, Rp (Shape.slice (Shape.bv .u8 8)) [.slice b ys.length d] ys] w' ∧ i ≤ xs.length) (fun st_ => match st_ with | (i, ao, co) => xs.length - i) (0, none, 0) ⟨H, Nat.zero_le _⟩ (rfl) ?_
    rintro ⟨i, ao, co⟩ w3 ⟨H, hinv0⟩ hback2
    refine WK.run 3 [0, 1, 2, 3, 9, 10, 28] [.code (cd Try.prog 6 [3, 0, 1, 0, 0, 0, 1]), .code (cd Try.prog 6 [3, 0, 1, 0, 0, 1]), .inLoop (cd Try.prog 6 [3, 0, 1, 0, 0]), .inBlock 0, .code (cd Try.prog 6 [4])] [(0, .slice a xs.length c), (1, .slice b ys.length d), (2, .int .i64 k), (3, .int .i64 n), (9, .slice ao (((xorL xs ys).take i).length) co), (10, .int .i64 (i : Int)), (28, .bool (decide (((i : Int) : Int) < ((xs.length : Nat) : Int))))] (by as_aux_lemma => kernel_rfl) ?_
    refine WK.cond1 (decide (((i : Int) : Int) < ((xs.length : Nat) : Int))) (by as_aux_lemma => kernel_rfl) (by as_aux_lemma => kernel_rfl) (fun h4 => ?_) (fun h4 => ?_)
    · skip
      replace h4 := of_decide_eq_true h4
      refine WK.run 3 [0, 1, 2, 3, 9, 10] [.code (cd Try.prog 6 [3, 0, 1, 0, 0, 1, 0, 0]), .inBlock 1, .code (cd Try.prog 6 [3, 0, 1, 0, 0, 2]), .inLoop (cd Try.prog 6 [3, 0, 1, 0, 0]), .inBlock 0, .code (cd Try.prog 6 [4])] [(0, .slice a xs.length c), (1, .slice b ys.length d), (2, .int .i64 k), (3, .int .i64 n), (9, .slice ao (((xorL xs ys).take i).length) co), (10, .int .i64 (i : Int))] (by as_aux_lemma => kernel_rfl) ?_
      refine WK.draw1 11 [(0, .qui), (1, .qui), (2, .qui), (3, .qui), (4, .qui), (5, .qui), (6, .qui), (7, .qui), (8, .qui), (9, .qui), (10, .chn)] [(0, .qui), (1, .qui), (2, .qui), (3, .qui), (4, .qui), (5, .qui), (6, .qui), (7, .qui), (8, .qui), (9, .qui), (10, .chn), (11, .seq), (12, .seq)] Try_mixed (by as_aux_lemma => kernel_rfl) (by as_aux_lemma => kernel_rfl) (by as_aux_lemma => kernel_rfl) ?_
      have H := H.draw
      generalize ({ w3 with drawn := w3.drawn + 1 } : World) = w5 at H ⊢
      refine RW.runP 3 [0, 1, 2, 3, 9, 10, 31, 32, 33] [(3, .qui), (4, .qui), (5, .qui), (6, .qui), (7, .qui), (8, .qui), (9, .qui), (10, .chn), (11, .seq), (12, .seq)] [(0, .slice a xs.length c), (1, .slice b ys.length d), (2, .int .i64 k), (3, .int .i64 n), (9, .slice ao (((xorL xs ys).take i).length) co), (10, .int .i64 (i : Int)), (31, .slice ao (((xorL xs ys).take i).length) co), (32, .slice a xs.length c), (33, .int .i64 (i : Int))] (by as_aux_lemma => kernel_rfl) (by as_aux_lemma => kernel_rfl) ?_
      have hx6 : i < xs.length := by omega
      refine RW.index (κ := .qui) (d := some 34) (r := [(4, .qui), (5, .qui), (6, .qui), (7, .qui), (8, .qui), (9, .qui), (10, .chn), (11, .seq), (12, .seq)]) (T := 23) (e := 5) (ik := .i64) (ix := (i : Int)) (sh := (Shape.bv .u8 8)) (x := xs[i]) (by as_aux_lemma => kernel_rfl) (by as_aux_lemma => kernel_rfl) H 0 rfl i (by omega) (List.getElem?_eq_getElem hx6) ?_
      intro b7 o8 es9 hr10 H
      obtain rfl := hr10
      refine RW.load (κ := .qui) (d := some 35) (r := [(5, .qui), (6, .qui), (7, .qui), (8, .qui), (9, .qui), (10, .chn), (11, .seq), (12, .seq)]) (T := 5) (b := b7) (o' := o8) (k := 0) (v := .int .u8 (((xs[i]).toNat : Nat) : Int)) (by as_aux_lemma => kernel_rfl) (H.fc 0 rfl) rfl (by as_aux_lemma => kernel_rfl) ?_
      refine RW.runP 2 [0, 1, 2, 3, 9, 10, 31, 35, 36, 37] [(7, .qui), (8, .qui), (9, .qui), (10, .chn), (11, .seq), (12, .seq)] [(0, .slice a xs.length c), (1, .slice b ys.length d), (2, .int .i64 k), (3, .int .i64 n), (9, .slice ao (((xorL xs ys).take i).length) co), (10, .int .i64 (i : Int)), (31, .slice ao (((xorL xs ys).take i).length) co), (35, .int .u8 (((xs[i]).toNat : Nat) : Int)), (36, .slice b ys.length d), (37, .int .i64 (i : Int))] (by as_aux_lemma => kernel_rfl) (by as_aux_lemma => kernel_rfl) ?_
      have hx11 : i < ys.length := by omega
      refine RW.index (κ := .qui) (d := some 38) (r := [(8, .qui), (9, .qui), (10, .chn), (11, .seq), (12, .seq)]) (T := 23) (e := 5) (ik := .i64) (ix := (i : Int)) (sh := (Shape.bv .u8 8)) (x := ys[i]) (by as_aux_lemma => kernel_rfl) (by as_aux_lemma => kernel_rfl) H 2 rfl i (by omega) (List.getElem?_eq_getElem hx11) ?_
      intro b12 o13 es14 hr15 H
      obtain rfl := hr15
      refine RW.load (κ := .qui) (d := some 39) (r := [(9, .qui), (10, .chn), (11, .seq), (12, .seq)]) (T := 5) (b := b12) (o' := o13) (k := 0) (v := .int .u8 (((ys[i]).toNat : Nat) : Int)) (by as_aux_lemma => kernel_rfl) (H.fc 0 rfl) rfl (by as_aux_lemma => kernel_rfl) ?_
      refine RW.pv (κ := .qui) (d := some 40) (r := [(10, .chn), (11, .seq), (12, .seq)]) (v := .int .u8 (IntKind.u8.wrap ((BitVec.ofInt 8 (((xs[i]).toNat : Nat) : Int) ^^^ BitVec.ofInt 8 (((ys[i]).toNat : Nat) : Int)).toNat : Nat))) (v' := .int .u8 (((((xs[i]) ^^^ (ys[i])).toNat : Nat) : Int))) (by as_aux_lemma => kernel_rfl) (bv_xor8 (bvi _) (bvi _)) ?_
      refine RW.new (κ := .chn) (d := some 41) (r := [(11, .seq), (12, .seq)]) (o := .cells #[.int .u8 ((((xs[i]) ^^^ (ys[i])).toNat : Nat) : Int)] 5 (0, 0)) (v := fun b => .slice (some ⟨b, 0, none⟩) 1 1) (fun b => by as_aux_lemma => kernel_rfl) (nofun) H ?_
      intro b16 w17 H
      have H := H.freeze 0 rfl (Shape.bv .u8 8) ([(xs[i]) ^^^ (ys[i])] : List (BitVec 8)) 1 (by simp [maxLen]) (by first | exact Nat.le_refl _ | simp) (EsP.cons (c := [.int .u8 ((((xs[i]) ^^^ (ys[i])).toNat : Nat) : Int)]) Shape.bv_mk EsP.nil)
      have H : Hp w S [] [] [⟨Shape.bv .u8 8, 5, .slice ao (((xorL xs ys).take i).length) co, (xorL xs ys).take i⟩] [Rp (Shape.slice (Shape.bv .u8 8)) [.slice (some ⟨b16, 0, none⟩) 1 1] ([(xs[i]) ^^^ (ys[i])] : List (BitVec 8)), Fc b12 o13 [.int .u8 (((ys[i]).toNat : Nat) : Int)], Fc b7 o8 [.int .u8 (((xs[i]).toNat : Nat) : Int)], Rp (Shape.slice (Shape.bv .u8 8)) [.slice a xs.length c] xs, Rp (Shape.slice (Shape.bv .u8 8)) [.slice b ys.length d] ys] _ := H
      refine RW.appendW (d := some 42) (r := [(12, .seq)]) (T := 23) (ty := 23) (e := 5) (m := 1) (by_ := 1) (v := .slice ao (((xorL xs ys).take i).length) co) (a2 := (some ⟨b16, 0, none⟩)) (l2 := 1) (c2 := 1) (zs := (xorL xs ys).take (i + 1)) (by as_aux_lemma => kernel_rfl) (by as_aux_lemma => kernel_rfl) rfl H 0 rfl 0 rfl (take_snoc (xorL_get? (by omega) (by omega))) (by rw [List.length_take]; omega) ?_
      intro a18 c19 w21 H hc20
      have H : Hp w S [] [] [⟨Shape.bv .u8 8, 5, .slice a18 (((xorL xs ys).take (i + 1)).length) c19, (xorL xs ys).take (i + 1)⟩] [Rp (Shape.slice (Shape.bv .u8 8)) [.slice (some ⟨b16, 0, none⟩) 1 1] ([(xs[i]) ^^^ (ys[i])] : List (BitVec 8)), Fc b12 o13 [.int .u8 (((ys[i]).toNat : Nat) : Int)], Fc b7 o8 [.int .u8 (((xs[i]).toNat : Nat) : Int)], Rp (Shape.slice (Shape.bv .u8 8)) [.slice a xs.length c] xs, Rp (Shape.slice (Shape.bv .u8 8)) [.slice b ys.length d] ys] _ := H
      refine RW.fin 1 [0, 1, 2, 3, 9, 10] [(0, .slice a xs.length c), (1, .slice b ys.length d), (2, .int .i64 k), (3, .int .i64 n), (9, .slice a18 (((xorL xs ys).take (i + 1)).length) c19), (10, .int .i64 (i : Int))] (by as_aux_lemma => kernel_rfl) ?_
      refine WK.run 1 [0, 1, 2, 3, 9, 10] [.code (cd Try.prog 6 [3, 0, 1, 0, 0, 2]), .inLoop (cd Try.prog 6 [3, 0, 1, 0, 0]), .inBlock 0, .code (cd Try.prog 6 [4])] [(0, .slice a xs.length c), (1, .slice b ys.length d), (2, .int .i64 k), (3, .int .i64 n), (9, .slice a18 (((xorL xs ys).take (i + 1)).length) c19), (10, .int .i64 (i : Int))] (by as_aux_lemma => kernel_rfl) ?_
      refine WK.reg1 (l := sq 0 3) (by as_aux_lemma => kernel_rfl) (by as_aux_lemma => kernel_rfl) ?_
      refine RW.runP 1 [0, 1, 2, 3, 9, 10, 29] (sq 1 3) [(0, .slice a xs.length c), (1, .slice b ys.length d), (2, .int .i64 k), (3, .int .i64 n), (9, .slice a18 (((xorL xs ys).take (i + 1)).length) c19), (10, .int .i64 (i : Int)), (29, .int .i64 (i : Int))] (by as_aux_lemma => kernel_rfl) (by as_aux_lemma => kernel_rfl) ?_
      refine RW.wr64 (κ := .seq) (d := some 30) (r := (sq 2 3)) (t := (i : Int) + 1) (by as_aux_lemma => kernel_rfl) (by omega) ?_
      refine RW.fin 1 [0, 1, 2, 3, 9, 10] [(0, .slice a xs.length c), (1, .slice b ys.length d), (2, .int .i64 k), (3, .int .i64 n), (9, .slice a18 (((xorL xs ys).take (i + 1)).length) c19), (10, .int .i64 ((i : Int) + 1))] (by as_aux_lemma => kernel_rfl) ?_
      have H := H.pick [3, 4] (G' := [Rp (Shape.slice (Shape.bv .u8 8)) [.slice a xs.length c] xs, Rp (Shape.slice (Shape.bv .u8 8)) [.slice b ys.length d] ys]) rfl
      exact WK.back (hback2 (i + 1, a18, c19) _ ⟨H, by omega⟩ (by first | omega | (simp only []; omega))) (by as_aux_lemma => kernel_rfl)
    · skip
      replace h4 := of_decide_eq_false h4
      have hie : (xorL xs ys).take i = (xorL xs ys) := List.take_of_length_le (by omega)
      rw [hie] at H ⊢
      have H : Hp w S [] [] [⟨Shape.bv .u8 8, 5, .slice ao ((xorL xs ys).length) co, (xorL xs ys)⟩] [Rp (Shape.slice (Shape.bv .u8 8)) [.slice a xs.length c] xs, Rp (Shape.slice (Shape.bv .u8 8)) [.slice b ys.length d] ys] _ := H
      have H : Hp w S [] [] [] [Rp (Shape.slice (Shape.bv .u8 8)) [.slice ao ((xorL xs ys).length) co] (xorL xs ys), Rp (Shape.slice (Shape.bv .u8 8)) [.slice a xs.length c] xs, Rp (Shape.slice (Shape.bv .u8 8)) [.slice b ys.length d] ys] _ := H.freezeW 0 rfl
      refine WK.run 2 [0, 1, 2, 3, 9] [.code (cd Try.prog 6 [4, 0]), .code (cd Try.prog 6 [5])] [(0, .slice a xs.length c), (1, .slice b ys.length d), (2, .int .i64 k), (3, .int .i64 n), (9, .slice ao ((xorL xs ys).length) co)] (by as_aux_lemma => kernel_rfl) ?_
      refine WK.reg1 (l := sq 0 9) (by as_aux_lemma => kernel_rfl) (by as_aux_lemma => kernel_rfl) ?_
      refine RW.runP 3 [1, 2, 3, 9, 44, 45, 46] (sq 3 9) [(1, .slice b ys.length d), (2, .int .i64 k), (3, .int .i64 n), (9, .slice ao ((xorL xs ys).length) co), (44, .slice a xs.length c), (45, .int .i64 k), (46, .int .i64 n)] (by as_aux_lemma => kernel_rfl) (by as_aux_lemma => kernel_rfl) ?_
      refine RW.call (κ := .seq) (d := some 47) (r := (sq 4 9)) (g := 29) (args := #[.slice a xs.length c, .int .i64 k, .int .i64 n]) (by as_aux_lemma => kernel_rfl) (nofun) (encode_bad4 (xs := xs) k n (H.rp 1 rfl) (by omega)) ?_
      rintro _ w22 hE23 rfl
      have H := H.ext hE23
      refine RW.fin 5 [1, 2, 3, 9, 11, 12] [(1, .slice b ys.length d), (2, .int .i64 k), (3, .int .i64 n), (9, .slice ao ((xorL xs ys).length) co), (11, .slice none 0 0), (12, .int .i64 2)] (by as_aux_lemma => kernel_rfl) ?_
      refine WK.run 1 [1, 2, 3, 9, 11, 12] [.code (cd Try.prog 6 [5, 0]), .code (cd Try.prog 6 [6])] [(1, .slice b ys.length d), (2, .int .i64 k), (3, .int .i64 n), (9, .slice ao ((xorL xs ys).length) co), (11, .slice none 0 0), (12, .int .i64 2)] (by as_aux_lemma => kernel_rfl) ?_
      refine WK.reg1 (l := sq 0 9) (by as_aux_lemma => kernel_rfl) (by as_aux_lemma => kernel_rfl) ?_
      refine RW.runP 3 [2, 3, 9, 11, 12, 51, 52, 53] (sq 3 9) [(2, .int .i64 k), (3, .int .i64 n), (9, .slice ao ((xorL xs ys).length) co), (11, .slice none 0 0), (12, .int .i64 2), (51, .slice b ys.length d), (52, .int .i64 k), (53, .int .i64 n)] (by as_aux_lemma => kernel_rfl) (by as_aux_lemma => kernel_rfl) ?_
      refine RW.call (κ := .seq) (d := some 54) (r := (sq 4 9)) (g := 29) (args := #[.slice b ys.length d, .int .i64 k, .int .i64 n]) (by as_aux_lemma => kernel_rfl) (nofun) (encode_bad4 (xs := ys) k n (H.rp 2 rfl) (by omega)) ?_
      rintro _ w24 hE25 rfl
      have H := H.ext hE25
      refine RW.fin 5 [2, 3, 9, 11, 12, 13, 14] [(2, .int .i64 k), (3, .int .i64 n), (9, .slice ao ((xorL xs ys).length) co), (11, .slice none 0 0), (12, .int .i64 2), (13, .slice none 0 0), (14, .int .i64 2)] (by as_aux_lemma => kernel_rfl) ?_
      refine WK.run 1 [2, 3, 9, 11, 12, 13, 14] [.code (cd Try.prog 6 [6, 0]), .code (cd Try.prog 6 [7])] [(2, .int .i64 k), (3, .int .i64 n), (9, .slice ao ((xorL xs ys).length) co), (11, .slice none 0 0), (12, .int .i64 2), (13, .slice none 0 0), (14, .int .i64 2)] (by as_aux_lemma => kernel_rfl) ?_
      refine WK.reg1 (l := sq 0 9) (by as_aux_lemma => kernel_rfl) (by as_aux_lemma => kernel_rfl) ?_
      refine RW.runP 3 [11, 12, 13, 14, 58, 59, 60] (sq 3 9) [(11, .slice none 0 0), (12, .int .i64 2), (13, .slice none 0 0), (14, .int .i64 2), (58, .slice ao ((xorL xs ys).length) co), (59, .int .i64 k), (60, .int .i64 n)] (by as_aux_lemma => kernel_rfl) (by as_aux_lemma => kernel_rfl) ?_
      refine RW.call (κ := .seq) (d := some 61) (r := (sq 4 9)) (g := 29) (args := #[.slice ao ((xorL xs ys).length) co, .int .i64 k, .int .i64 n]) (by as_aux_lemma => kernel_rfl) (nofun) (encode_bad4 (xs := (xorL xs ys)) k n (H.rp 0 rfl) (by omega)) ?_
      rintro _ w26 hE27 rfl
      have H := H.ext hE27
      refine RW.fin 5 [11, 12, 13, 14, 15, 16] [(11, .slice none 0 0), (12, .int .i64 2), (13, .slice none 0 0), (14, .int .i64 2), (15, .slice none 0 0), (16, .int .i64 2)] (by as_aux_lemma => kernel_rfl) ?_
      refine WK.run 9 [11, 13, 15, 17] [.code (cd Try.prog 6 [8, 0, 1, 0]), .inBlock 2, .code (cd Try.prog 6 [9])] [(11, .slice none 0 0), (13, .slice none 0 0), (15, .slice none 0 0), (17, .int .i64 0)] (by as_aux_lemma => kernel_rfl) ?_
      have H := H.pick [] (G' := []) rfl
      refine WK.loop (α := Nat) (b := cd Try.prog 6 [8, 0, 1, 0, 0]) (by as_aux_lemma => kernel_rfl) (fun i => [(11, .slice none 0 0), (13, .slice none 0 0), (15, .slice none 0 0), (17, .int .i64 (i : Int))]) (fun i w' => Hp w S [] [] [] [] w' ∧ True) (fun i => 0) 0 ⟨H, trivial⟩ (rfl) ?_
      rintro i w29 ⟨H, hinv1⟩ hback28
      refine WK.run 3 [11, 13, 15, 17, 89] [.code (cd Try.prog 6 [8, 0, 1, 0, 0, 0, 1]), .code (cd Try.prog 6 [8, 0, 1, 0, 0, 1]), .inLoop (cd Try.prog 6 [8, 0, 1, 0, 0]), .inBlock 2, .code (cd Try.prog 6 [9])] [(11, .slice none 0 0), (13, .slice none 0 0), (15, .slice none 0 0), (17, .int .i64 (i : Int)), (89, .bool (decide (((i : Int) : Int) < 0)))] (by as_aux_lemma => kernel_rfl) ?_
      refine WK.cond1 (decide (((i : Int) : Int) < 0)) (by as_aux_lemma => kernel_rfl) (by as_aux_lemma => kernel_rfl) (fun h30 => ?_) (fun h30 => ?_)
      · skip
        replace h30 := of_decide_eq_true h30
        omega
      · skip
        replace h30 := of_decide_eq_false h30
        refine WK.run 2 [] [.code (cd Try.prog 6 [9, 0]), .code (cd Try.prog 6 [10])] [] (by as_aux_lemma => kernel_rfl) ?_
        refine WK.reg1 (l := sq 0 2) (by as_aux_lemma => kernel_rfl) (by as_aux_lemma => kernel_rfl) ?_
        refine RW.call (κ := .seq) (d := some 148) (r := (sq 1 2)) (g := 28) (args := #[]) (by as_aux_lemma => kernel_rfl) (nofun) (heads_spec (S := fun _ => True)) ?_
        rintro _ w31 hE32 rfl
        have H := H.ext hE32
        refine RW.fin 1 [8] [(8, .bool true)] (by as_aux_lemma => kernel_rfl) ?_
        refine WK.ret (v := .bool true) Try.func6 (by as_aux_lemma => kernel_rfl) (by as_aux_lemma => kernel_rfl) ?_
        exact ⟨_, rfl, H.done, rfl⟩

theorem adds_ok {S : Nat → Prop} {w : World} {xs ys : List (BitVec 8)} {a b : Option Addr} {c d : Nat} (h : (Shape.slice (Shape.bv .u8 8)).rep S w [.slice a xs.length c] xs) (h2 : (Shape.slice (Shape.bv .u8 8)).rep S w [.slice b ys.length d] ys) {k n : Nat} (hxy : xs.length = ys.length) (hs : xs.length ≤ 65536) (hk : 1 ≤ k) (hkn : k ≤ n) (hn : n ≤ 255) :
    Calls Try.prog 6 #[.slice a xs.length c, .slice b ys.length d, .int .i64 (k : Int), .int .i64 (n : Int)] w (Ret fun v w' => Ext w w' ∧ v = .bool true) := by
  have hal := Shape.slice_len h
  have hXl := xorL_len hxy
  refine WK.calls1 (fn := Try.f6) (n := 149) (σ := [(0, .slice a xs.length c), (1, .slice b ys.length d), (2, .int .i64 (k : Int)), (3, .int .i64 (n : Int))]) Try.func6 rfl (by as_aux_lemma => kernel_rfl) (by as_aux_lemma => kernel_rfl) (by as_aux_lemma => kernel_rfl) ?_
  have H := Hp.startF (w := w) (S := S) (G := [Rp (Shape.slice (Shape.bv .u8 8)) [.slice a xs.length c] xs, Rp (Shape.slice (Shape.bv .u8 8)) [.slice b ys.length d] ys]) (.rp h (.rp h2 .nil))
  refine WK.run 5 [0, 1, 2, 3, 23] [.code (cd Try.prog 6 [1, 0, 1]), .code (cd Try.prog 6 [2])] [(0, .slice a xs.length c), (1, .slice b ys.length d), (2, .int .i64 (k : Int)), (3, .int .i64 (n : Int)), (23, .bool (((xs.length : Nat) : Int) != ((ys.length : Nat) : Int)))] (by as_aux_lemma => kernel_rfl) ?_
  refine WK.cond1 (((xs.length : Nat) : Int) != ((ys.length : Nat) : Int)) (by as_aux_lemma => kernel_rfl) (by as_aux_lemma => kernel_rfl) (fun h1 => ?_) (fun h1 => ?_)
  · skip
    replace h1 := bne_iff_ne.1 h1
    omega
  · skip
    replace h1 := (bne_eq_false_iff_eq.1 h1)
    refine WK.run 7 [0, 1, 2, 3, 9, 10] [.code (cd Try.prog 6 [3, 0, 1, 0]), .inBlock 0, .code (cd Try.prog 6 [4])] [(0, .slice a xs.length c), (1, .slice b ys.length d), (2, .int .i64 (k : Int)), (3, .int .i64 (n : Int)), (9, .slice none 0 0), (10, .int .i64 0)] (by as_aux_lemma => kernel_rfl) ?_
    have H := H.ownNil (Shape.bv .u8 8) 5
    have H := H.drop (M' := []) (W' := [⟨Shape.bv .u8 8, 5, .slice none (((xorL xs ys).take 0).length) 0, (xorL xs ys).take 0⟩]) (by repeat (first | exact List.Sublist.refl _ | exact List.nil_sublist _ | apply List.Sublist.cons_cons | apply List.Sublist.cons)) (by repeat (first | exact List.Sublist.refl _ | exact List.nil_sublist _ | apply List.Sublist.cons_cons | apply List.Sublist.cons))
    refine WK.loop (α := Nat × Option Addr × Nat) (b := cd Try.prog 6 [3, 0, 1, 0, 0]) (by as_aux_lemma => kernel_rfl) (fun st_ => match st_ with | (i, ao, co) => [(0, .slice a xs.length c), (1, .slice b ys.length d), (2, .int .i64 (k : Int)), (3, .int .i64 (n : Int)), (9, .slice ao (((xorL xs ys).take i).length) co), (10, .int .i64 (i : Int))]) (fun st_ w' => match st_ with | (i, ao, co) => Hp w S [] [] [⟨Shape.bv .u8 8, 5, .slice ao (((xorL xs ys).take i).length) co, (xorL xs ys).take i⟩] [Rp (Shape.slice (Shape.bv .u8 8)) [.slice a xs.length c] xs, Rp (Shape.slice (Shape.bv .u8 8)) [.slice b ys.length d] ys] w' ∧ i ≤ xs.length) (fun st_ => match st_ with | (i, ao, co) => xs.length - i) (0, none, 0) ⟨H, Nat.zero_le _⟩ (rfl) ?_
    rintro ⟨i, ao, co⟩ w3 ⟨H, hinv0⟩ hback2
    refine WK.run 3 [0, 1, 2, 3, 9, 10, 28] [.code (cd Try.prog 6 [3, 0, 1, 0, 0, 0, 1]), .code (cd Try.prog 6 [3, 0, 1, 0, 0, 1]), .inLoop (cd Try.prog 6 [3, 0, 1, 0, 0]), .inBlock 0, .code (cd Try.prog 6 [4])] [(0, .slice a xs.length c), (1, .slice b ys.length d), (2, .int .i64 (k : Int)), (3, .int .i64 (n : Int)), (9, .slice ao (((xorL xs ys).take i).length) co), (10, .int .i64 (i : Int)), (28, .bool (decide (((i : Int) : Int) < ((xs.length : Nat) : Int))))] (by as_aux_lemma => kernel_rfl) ?_
    refine WK.cond1 (decide (((i : Int) : Int) < ((xs.length : Nat) : Int))) (by as_aux_lemma => kernel_rfl) (by as_aux_lemma => kernel_rfl) (fun h4 => ?_) (fun h4 => ?_)
    · skip
      replace h4 := of_decide_eq_true h4
      refine WK.run 3 [0, 1, 2, 3, 9, 10] [.code (cd Try.prog 6 [3, 0, 1, 0, 0, 1, 0, 0]), .inBlock 1, .code (cd Try.prog 6 [3, 0, 1, 0, 0, 2]), .inLoop (cd Try.prog 6 [3, 0, 1, 0, 0]), .inBlock 0, .code (cd Try.prog 6 [4])] [(0, .slice a xs.length c), (1, .slice b ys.length d), (2, .int .i64 (k : Int)), (3, .int .i64 (n : Int)), (9, .slice ao (((xorL xs ys).take i).length) co), (10, .int .i64 (i : Int))] (by as_aux_lemma => kernel_rfl) ?_
      refine WK.draw1 11 [(0, .qui), (1, .qui), (2, .qui), (3, .qui), (4, .qui), (5, .qui), (6, .qui), (7, .qui), (8, .qui), (9, .qui), (10, .chn)] [(0, .qui), (1, .qui), (2, .qui), (3, .qui), (4, .qui), (5, .qui), (6, .qui), (7, .qui), (8, .qui), (9, .qui), (10, .chn), (11, .seq), (12, .seq)] Try_mixed (by as_aux_lemma => kernel_rfl) (by as_aux_lemma => kernel_rfl) (by as_aux_lemma => kernel_rfl) ?_
      have H := H.draw
      generalize ({ w3 with drawn := w3.drawn + 1 } : World) = w5 at H ⊢
      refine RW.runP 3 [0, 1, 2, 3, 9, 10, 31, 32, 33] [(3, .qui), (4, .qui), (5, .qui), (6, .qui), (7, .qui), (8, .qui), (9, .qui), (10, .chn), (11, .seq), (12, .seq)] [(0, .slice a xs.length c), (1, .slice b ys.length d), (2, .int .i64 (k : Int)), (3, .int .i64 (n : Int)), (9, .slice ao (((xorL xs ys).take i).length) co), (10, .int .i64 (i : Int)), (31, .slice ao (((xorL xs ys).take i).length) co), (32, .slice a xs.length c), (33, .int .i64 (i : Int))] (by as_aux_lemma => kernel_rfl) (by as_aux_lemma => kernel_rfl) ?_
      have hx6 : i < xs.length := by omega
      refine RW.index (κ := .qui) (d := some 34) (r := [(4, .qui), (5, .qui), (6, .qui), (7, .qui), (8, .qui), (9, .qui), (10, .chn), (11, .seq), (12, .seq)]) (T := 23) (e := 5) (ik := .i64) (ix := (i : Int)) (sh := (Shape.bv .u8 8)) (x := xs[i]) (by as_aux_lemma => kernel_rfl) (by as_aux_lemma => kernel_rfl) H 0 rfl i (by omega) (List.getElem?_eq_getElem hx6) ?_
      intro b7 o8 es9 hr10 H
      obtain rfl := hr10
      refine RW.load (κ := .qui) (d := some 35) (r := [(5, .qui), (6, .qui), (7, .qui), (8, .qui), (9, .qui), (10, .chn), (11, .seq), (12, .seq)]) (T := 5) (b := b7) (o' := o8) (k := 0) (v := .int .u8 (((xs[i]).toNat : Nat) : Int)) (by as_aux_lemma => kernel_rfl) (H.fc 0 rfl) rfl (by as_aux_lemma => kernel_rfl) ?_
      refine RW.runP 2 [0, 1, 2, 3, 9, 10, 31, 35, 36, 37] [(7, .qui), (8, .qui), (9, .qui), (10, .chn), (11, .seq), (12, .seq)] [(0, .slice a xs.length c), (1, .slice b ys.length d), (2, .int .i64 (k : Int)), (3, .int .i64 (n : Int)), (9, .slice ao (((xorL xs ys).take i).length) co), (10, .int .i64 (i : Int)), (31, .slice ao (((xorL xs ys).take i).length) co), (35, .int .u8 (((xs[i]).toNat : Nat) : Int)), (36, .slice b ys.length d), (37, .int .i64 (i : Int))] (by as_aux_lemma => kernel_rfl) (by as_aux_lemma => kernel_rfl) ?_
      have hx11 : i < ys.length := by omega
      refine RW.index (κ := .qui) (d := some 38) (r := [(8, .qui), (9, .qui), (10, .chn), (11, .seq), (12, .seq)]) (T := 23) (e := 5) (ik := .i64) (ix := (i : Int)) (sh := (Shape.bv .u8 8)) (x := ys[i]) (by as_aux_lemma => kernel_rfl) (by as_aux_lemma => kernel_rfl) H 2 rfl i (by omega) (List.getElem?_eq_getElem hx11) ?_
      intro b12 o13 es14 hr15 H
      obtain rfl := hr15
      refine RW.load (κ := .qui) (d := some 39) (r := [(9, .qui), (10, .chn), (11, .seq), (12, .seq)]) (T := 5) (b := b12) (o' := o13) (k := 0) (v := .int .u8 (((ys[i]).toNat : Nat) : Int)) (by as_aux_lemma => kernel_rfl) (H.fc 0 rfl) rfl (by as_aux_lemma => kernel_rfl) ?_
      refine RW.pv (κ := .qui) (d := some 40) (r := [(10, .chn), (11, .seq), (12, .seq)]) (v := .int .u8 (IntKind.u8.wrap ((BitVec.ofInt 8 (((xs[i]).toNat : Nat) : Int) ^^^ BitVec.ofInt 8 (((ys[i]).toNat : Nat) : Int)).toNat : Nat))) (v' := .int .u8 (((((xs[i]) ^^^ (ys[i])).toNat : Nat) : Int))) (by as_aux_lemma => kernel_rfl) (bv_xor8 (bvi _) (bvi _)) ?_
      refine RW.new (κ := .chn) (d := some 41) (r := [(11, .seq), (12, .seq)]) (o := .cells #[.int .u8 ((((xs[i]) ^^^ (ys[i])).toNat : Nat) : Int)] 5 (0, 0)) (v := fun b => .slice (some ⟨b, 0, none⟩) 1 1) (fun b => by as_aux_lemma => kernel_rfl) (nofun) H ?_
      intro b16 w17 H
      have H := H.freeze 0 rfl (Shape.bv .u8 8) ([(xs[i]) ^^^ (ys[i])] : List (BitVec 8)) 1 (by simp [maxLen]) (by first | exact Nat.le_refl _ | simp) (EsP.cons (c := [.int .u8 ((((xs[i]) ^^^ (ys[i])).toNat : Nat) : Int)]) Shape.bv_mk EsP.nil)
      have H : Hp w S [] [] [⟨Shape.bv .u8 8, 5, .slice ao (((xorL xs ys).take i).length) co, (xorL xs ys).take i⟩] [Rp (Shape.slice (Shape.bv .u8 8)) [.slice (some ⟨b16, 0, none⟩) 1 1] ([(xs[i]) ^^^ (ys[i])] : List (BitVec 8)), Fc b12 o13 [.int .u8 (((ys[i]).toNat : Nat) : Int)], Fc b7 o8 [.int .u8 (((xs[i]).toNat : Nat) : Int)], Rp (Shape.slice (Shape.bv .u8 8)) [.slice a xs.length c] xs, Rp (Shape.slice (Shape.bv .u8 8)) [.slice b ys.length d] ys] _ := H
      refine RW.appendW (d := some 42) (r := [(12, .seq)]) (T := 23) (ty := 23) (e := 5) (m := 1) (by_ := 1) (v := .slice ao (((xorL xs ys).take i).length) co) (a2 := (some ⟨b16, 0, none⟩)) (l2 := 1) (c2 := 1) (zs := (xorL xs ys).take (i + 1)) (by as_aux_lemma => kernel_rfl) (by as_aux_lemma => kernel_rfl) rfl H 0 rfl 0 rfl (take_snoc (xorL_get? (by omega) (by omega))) (by rw [List.length_take]; omega) ?_
      intro a18 c19 w21 H hc20
      have H : Hp w S [] [] [⟨Shape.bv .u8 8, 5, .slice a18 (((xorL xs ys).take (i + 1)).length) c19, (xorL xs ys).take (i + 1)⟩] [Rp (Shape.slice (Shape.bv .u8 8)) [.slice (some ⟨b16, 0, none⟩) 1 1] ([(xs[i]) ^^^ (ys[i])] : List (BitVec 8)), Fc b12 o13 [.int .u8 (((ys[i]).toNat : Nat) : Int)], Fc b7 o8 [.int .u8 (((xs[i]).toNat : Nat) : Int)], Rp (Shape.slice (Shape.bv .u8 8)) [.slice a xs.length c] xs, Rp (Shape.slice (Shape.bv .u8 8)) [.slice b ys.length d] ys] _ := H
      refine RW.fin 1 [0, 1, 2, 3, 9, 10] [(0, .slice a xs.length c), (1, .slice b ys.length d), (2, .int .i64 (k : Int)), (3, .int .i64 (n : Int)), (9, .slice a18 (((xorL xs ys).take (i + 1)).length) c19), (10, .int .i64 (i : Int))] (by as_aux_lemma => kernel_rfl) ?_
      refine WK.run 1 [0, 1, 2, 3, 9, 10] [.code (cd Try.prog 6 [3, 0, 1, 0, 0, 2]), .inLoop (cd Try.prog 6 [3, 0, 1, 0, 0]), .inBlock 0, .code (cd Try.prog 6 [4])] [(0, .slice a xs.length c), (1, .slice b ys.length d), (2, .int .i64 (k : Int)), (3, .int .i64 (n : Int)), (9, .slice a18 (((xorL xs ys).take (i + 1)).length) c19), (10, .int .i64 (i : Int))] (by as_aux_lemma => kernel_rfl) ?_
      refine WK.reg1 (l := sq 0 3) (by as_aux_lemma => kernel_rfl) (by as_aux_lemma => kernel_rfl) ?_
      refine RW.runP 1 [0, 1, 2, 3, 9, 10, 29] (sq 1 3) [(0, .slice a xs.length c), (1, .slice b ys.length d), (2, .int .i64 (k : Int)), (3, .int .i64 (n : Int)), (9, .slice a18 (((xorL xs ys).take (i + 1)).length) c19), (10, .int .i64 (i : Int)), (29, .int .i64 (i : Int))] (by as_aux_lemma => kernel_rfl) (by as_aux_lemma => kernel_rfl) ?_
      refine RW.wr64 (κ := .seq) (d := some 30) (r := (sq 2 3)) (t := (i : Int) + 1) (by as_aux_lemma => kernel_rfl) (by omega) ?_
      refine RW.fin 1 [0, 1, 2, 3, 9, 10] [(0, .slice a xs.length c), (1, .slice b ys.length d), (2, .int .i64 (k : Int)), (3, .int .i64 (n : Int)), (9, .slice a18 (((xorL xs ys).take (i + 1)).length) c19), (10, .int .i64 ((i : Int) + 1))] (by as_aux_lemma => kernel_rfl) ?_
      have H := H.pick [3, 4] (G' := [Rp (Shape.slice (Shape.bv .u8 8)) [.slice a xs.length c] xs, Rp (Shape.slice (Shape.bv .u8 8)) [.slice b ys.length d] ys]) rfl
      exact WK.back (hback2 (i + 1, a18, c19) _ ⟨H, by omega⟩ (by first | omega | (simp only []; omega))) (by as_aux_lemma => kernel_rfl)
    · skip
      replace h4 := of_decide_eq_false h4
      have hie : (xorL xs ys).take i = (xorL xs ys) := List.take_of_length_le (by omega)
      rw [hie] at H ⊢
      have H : Hp w S [] [] [⟨Shape.bv .u8 8, 5, .slice ao ((xorL xs ys).length) co, (xorL xs ys)⟩] [Rp (Shape.slice (Shape.bv .u8 8)) [.slice a xs.length c] xs, Rp (Shape.slice (Shape.bv .u8 8)) [.slice b ys.length d] ys] _ := H
      have H : Hp w S [] [] [] [Rp (Shape.slice (Shape.bv .u8 8)) [.slice ao ((xorL xs ys).length) co] (xorL xs ys), Rp (Shape.slice (Shape.bv .u8 8)) [.slice a xs.length c] xs, Rp (Shape.slice (Shape.bv .u8 8)) [.slice b ys.length d] ys] _ := H.freezeW 0 rfl
      refine WK.run 2 [0, 1, 2, 3, 9] [.code (cd Try.prog 6 [4, 0]), .code (cd Try.prog 6 [5])] [(0, .slice a xs.length c), (1, .slice b ys.length d), (2, .int .i64 (k : Int)), (3, .int .i64 (n : Int)), (9, .slice ao ((xorL xs ys).length) co)] (by as_aux_lemma => kernel_rfl) ?_
      refine WK.reg1 (l := sq 0 9) (by as_aux_lemma => kernel_rfl) (by as_aux_lemma => kernel_rfl) ?_
      refine RW.runP 3 [1, 2, 3, 9, 44, 45, 46] (sq 3 9) [(1, .slice b ys.length d), (2, .int .i64 (k : Int)), (3, .int .i64 (n : Int)), (9, .slice ao ((xorL xs ys).length) co), (44, .slice a xs.length c), (45, .int .i64 (k : Int)), (46, .int .i64 (n : Int))] (by as_aux_lemma => kernel_rfl) (by as_aux_lemma => kernel_rfl) ?_
      refine RW.call (κ := .seq) (d := some 47) (r := (sq 4 9)) (g := 29) (args := #[.slice a xs.length c, .int .i64 (k : Int), .int .i64 (n : Int)]) (by as_aux_lemma => kernel_rfl) (nofun) (encode_ok (xs := xs) k n (H.rp 1 rfl) (by omega) hk hkn hn) ?_
      rintro _ w22 hE25 ⟨a23, c24, rfl, hr26⟩
      have H := H.addN hE25 (F := Rp (Shape.slice (Shape.slice (Shape.bv .u8 8))) [.slice a23 ((enc xs k n).length) c24] (enc xs k n)) hr26
      have hel27 := enc_len (xs := xs) hkn
      have hea47 := encD_all (xs := xs) (k := k) (n := n)
      have hLs := lenOf_le (size := xs.length) (k := k) (by omega)
      refine RW.fin 5 [1, 2, 3, 9, 11, 12] [(1, .slice b ys.length d), (2, .int .i64 (k : Int)), (3, .int .i64 (n : Int)), (9, .slice ao ((xorL xs ys).length) co), (11, .slice a23 ((enc xs k n).length) c24), (12, .int .i64 0)] (by as_aux_lemma => kernel_rfl) ?_
      refine WK.run 1 [1, 2, 3, 9, 11, 12] [.code (cd Try.prog 6 [5, 0]), .code (cd Try.prog 6 [6])] [(1, .slice b ys.length d), (2, .int .i64 (k : Int)), (3, .int .i64 (n : Int)), (9, .slice ao ((xorL xs ys).length) co), (11, .slice a23 ((enc xs k n).length) c24), (12, .int .i64 0)] (by as_aux_lemma => kernel_rfl) ?_
      refine WK.reg1 (l := sq 0 9) (by as_aux_lemma => kernel_rfl) (by as_aux_lemma => kernel_rfl) ?_
      refine RW.runP 3 [2, 3, 9, 11, 12, 51, 52, 53] (sq 3 9) [(2, .int .i64 (k : Int)), (3, .int .i64 (n : Int)), (9, .slice ao ((xorL xs ys).length) co), (11, .slice a23 ((enc xs k n).length) c24), (12, .int .i64 0), (51, .slice b ys.length d), (52, .int .i64 (k : Int)), (53, .int .i64 (n : Int))] (by as_aux_lemma => kernel_rfl) (by as_aux_lemma => kernel_rfl) ?_
      refine RW.call (κ := .seq) (d := some 54) (r := (sq 4 9)) (g := 29) (args := #[.slice b ys.length d, .int .i64 (k : Int), .int .i64 (n : Int)]) (by as_aux_lemma => kernel_rfl) (nofun) (encode_ok (xs := ys) k n (H.rp 3 rfl) (by omega) hk hkn hn) ?_
      rintro _ w28 hE31 ⟨a29, c30, rfl, hr32⟩
      have H := H.addN hE31 (F := Rp (Shape.slice (Shape.slice (Shape.bv .u8 8))) [.slice a29 ((enc ys k n).length) c30] (enc ys k n)) hr32
      have hel33 := enc_len (xs := ys) hkn
      have hea54 := encD_all (xs := ys) (k := k) (n := n)
      have hLs := lenOf_le (size := xs.length) (k := k) (by omega)
      refine RW.fin 5 [2, 3, 9, 11, 12, 13, 14] [(2, .int .i64 (k : Int)), (3, .int .i64 (n : Int)), (9, .slice ao ((xorL xs ys).length) co), (11, .slice a23 ((enc xs k n).length) c24), (12, .int .i64 0), (13, .slice a29 ((enc ys k n).length) c30), (14, .int .i64 0)] (by as_aux_lemma => kernel_rfl) ?_
      refine WK.run 1 [2, 3, 9, 11, 12, 13, 14] [.code (cd Try.prog 6 [6, 0]), .code (cd Try.prog 6 [7])] [(2, .int .i64 (k : Int)), (3, .int .i64 (n : Int)), (9, .slice ao ((xorL xs ys).length) co), (11, .slice a23 ((enc xs k n).length) c24), (12, .int .i64 0), (13, .slice a29 ((enc ys k n).length) c30), (14, .int .i64 0)] (by as_aux_lemma => kernel_rfl) ?_
      refine WK.reg1 (l := sq 0 9) (by as_aux_lemma => kernel_rfl) (by as_aux_lemma => kernel_rfl) ?_
      refine RW.runP 3 [11, 12, 13, 14, 58, 59, 60] (sq 3 9) [(11, .slice a23 ((enc xs k n).length) c24), (12, .int .i64 0), (13, .slice a29 ((enc ys k n).length) c30), (14, .int .i64 0), (58, .slice ao ((xorL xs ys).length) co), (59, .int .i64 (k : Int)), (60, .int .i64 (n : Int))] (by as_aux_lemma => kernel_rfl) (by as_aux_lemma => kernel_rfl) ?_
      refine RW.call (κ := .seq) (d := some 61) (r := (sq 4 9)) (g := 29) (args := #[.slice ao ((xorL xs ys).length) co, .int .i64 (k : Int), .int .i64 (n : Int)]) (by as_aux_lemma => kernel_rfl) (nofun) (encode_ok (xs := (xorL xs ys)) k n (H.rp 2 rfl) (by omega) hk hkn hn) ?_
      rintro _ w34 hE37 ⟨a35, c36, rfl, hr38⟩
      have H := H.addN hE37 (F := Rp (Shape.slice (Shape.slice (Shape.bv .u8 8))) [.slice a35 ((enc (xorL xs ys) k n).length) c36] (enc (xorL xs ys) k n)) hr38
      have hel39 := enc_len (xs := (xorL xs ys)) hkn
      have hea61 := encD_all (xs := (xorL xs ys)) (k := k) (n := n)
      have hLs := lenOf_le (size := xs.length) (k := k) (by omega)
      refine RW.fin 5 [11, 12, 13, 14, 15, 16] [(11, .slice a23 ((enc xs k n).length) c24), (12, .int .i64 0), (13, .slice a29 ((enc ys k n).length) c30), (14, .int .i64 0), (15, .slice a35 ((enc (xorL xs ys) k n).length) c36), (16, .int .i64 0)] (by as_aux_lemma => kernel_rfl) ?_
      refine WK.run 2 [11, 12, 13, 14, 15, 16] [.code (cd Try.prog 6 [7, 0, 0]), .code (cd Try.prog 6 [7, 0, 1]), .code (cd Try.prog 6 [8])] [(11, .slice a23 ((enc xs k n).length) c24), (12, .int .i64 0), (13, .slice a29 ((enc ys k n).length) c30), (14, .int .i64 0), (15, .slice a35 ((enc (xorL xs ys) k n).length) c36), (16, .int .i64 0)] (by as_aux_lemma => kernel_rfl) ?_
      refine WK.reg1 (l := sq 0 22) (by as_aux_lemma => kernel_rfl) (by as_aux_lemma => kernel_rfl) ?_
      refine RW.runP 16 [11, 13, 15, 79] (sq 16 22) [(11, .slice a23 ((enc xs k n).length) c24), (13, .slice a29 ((enc ys k n).length) c30), (15, .slice a35 ((enc (xorL xs ys) k n).length) c36), (79, .bool ((((enc xs k n).length : Nat) : Int) != (((enc ys k n).length : Nat) : Int)))] (by as_aux_lemma => kernel_rfl) (by as_aux_lemma => kernel_rfl) ?_
      refine RW.test (fun b_ => [(11, .slice a23 ((enc xs k n).length) c24), (13, .slice a29 ((enc ys k n).length) c30), (15, .slice a35 ((enc (xorL xs ys) k n).length) c36), (79, .bool b_)]) ((((enc xs k n).length : Nat) : Int) != (((enc ys k n).length : Nat) : Int)) (fun h40 => ?_) (fun h40 => ?_)
      · skip
        replace h40 := bne_iff_ne.1 h40
        omega
      · skip
        replace h40 := (bne_eq_false_iff_eq.1 h40)
        refine RW.fin 6 [11, 13, 15, 85] [(11, .slice a23 ((enc xs k n).length) c24), (13, .slice a29 ((enc ys k n).length) c30), (15, .slice a35 ((enc (xorL xs ys) k n).length) c36), (85, .bool ((((enc xs k n).length : Nat) : Int) != (((enc (xorL xs ys) k n).length : Nat) : Int)))] (by as_aux_lemma => kernel_rfl) ?_
        refine WK.cond1 ((((enc xs k n).length : Nat) : Int) != (((enc (xorL xs ys) k n).length : Nat) : Int)) (by as_aux_lemma => kernel_rfl) (by as_aux_lemma => kernel_rfl) (fun h41 => ?_) (fun h41 => ?_)
        · skip
          replace h41 := bne_iff_ne.1 h41
          omega
        · skip
          replace h41 := (bne_eq_false_iff_eq.1 h41)
          refine WK.run 5 [11, 13, 15, 17] [.code (cd Try.prog 6 [8, 0, 1, 0]), .inBlock 2, .code (cd Try.prog 6 [9])] [(11, .slice a23 ((enc xs k n).length) c24), (13, .slice a29 ((enc ys k n).length) c30), (15, .slice a35 ((enc (xorL xs ys) k n).length) c36), (17, .int .i64 0)] (by as_aux_lemma => kernel_rfl) ?_
          have H := H.pick [0, 1, 2] (G' := [Rp (Shape.slice (Shape.slice (Shape.bv .u8 8))) [.slice a35 ((enc (xorL xs ys) k n).length) c36] (enc (xorL xs ys) k n), Rp (Shape.slice (Shape.slice (Shape.bv .u8 8))) [.slice a29 ((enc ys k n).length) c30] (enc ys k n), Rp (Shape.slice (Shape.slice (Shape.bv .u8 8))) [.slice a23 ((enc xs k n).length) c24] (enc xs k n)]) rfl
          refine WK.loop (α := Nat) (b := cd Try.prog 6 [8, 0, 1, 0, 0]) (by as_aux_lemma => kernel_rfl) (fun m => [(11, .slice a23 ((enc xs k n).length) c24), (13, .slice a29 ((enc ys k n).length) c30), (15, .slice a35 ((enc (xorL xs ys) k n).length) c36), (17, .int .i64 (m : Int))]) (fun m w' => Hp w S [] [] [] [Rp (Shape.slice (Shape.slice (Shape.bv .u8 8))) [.slice a35 ((enc (xorL xs ys) k n).length) c36] (enc (xorL xs ys) k n), Rp (Shape.slice (Shape.slice (Shape.bv .u8 8))) [.slice a29 ((enc ys k n).length) c30] (enc ys k n), Rp (Shape.slice (Shape.slice (Shape.bv .u8 8))) [.slice a23 ((enc xs k n).length) c24] (enc xs k n)] w' ∧ m ≤ n) (fun m => n - m) 0 ⟨H, Nat.zero_le _⟩ (rfl) ?_
          rintro m w43 ⟨H, hinv1⟩ hback42
          refine WK.run 3 [11, 13, 15, 17, 89] [.code (cd Try.prog 6 [8, 0, 1, 0, 0, 0, 1]), .code (cd Try.prog 6 [8, 0, 1, 0, 0, 1]), .inLoop (cd Try.prog 6 [8, 0, 1, 0, 0]), .inBlock 2, .code (cd Try.prog 6 [9])] [(11, .slice a23 ((enc xs k n).length) c24), (13, .slice a29 ((enc ys k n).length) c30), (15, .slice a35 ((enc (xorL xs ys) k n).length) c36), (17, .int .i64 (m : Int)), (89, .bool (decide (((m : Int) : Int) < (((enc xs k n).length : Nat) : Int))))] (by as_aux_lemma => kernel_rfl) ?_
          refine WK.cond1 (decide (((m : Int) : Int) < (((enc xs k n).length : Nat) : Int))) (by as_aux_lemma => kernel_rfl) (by as_aux_lemma => kernel_rfl) (fun h44 => ?_) (fun h44 => ?_)
          · skip
            replace h44 := of_decide_eq_true h44
            have hl1 := hea47 ((enc xs k n)[m]) (List.getElem_mem (by omega))
            have hl2 := hea54 ((enc ys k n)[m]) (List.getElem_mem (by omega))
            have hl3 := hea61 ((enc (xorL xs ys) k n)[m]) (List.getElem_mem (by omega))
            rw [← hxy] at hl2
            rw [hXl] at hl3
            refine WK.run 5 [11, 13, 15, 17] [.code (cd Try.prog 6 [8, 0, 1, 0, 0, 1, 0, 0, 0, 0]), .code (cd Try.prog 6 [8, 0, 1, 0, 0, 1, 0, 0, 0, 1]), .code (cd Try.prog 6 [8, 0, 1, 0, 0, 1, 0, 0, 1]), .inBlock 3, .code (cd Try.prog 6 [8, 0, 1, 0, 0, 2]), .inLoop (cd Try.prog 6 [8, 0, 1, 0, 0]), .inBlock 2, .code (cd Try.prog 6 [9])] [(11, .slice a23 ((enc xs k n).length) c24), (13, .slice a29 ((enc ys k n).length) c30), (15, .slice a35 ((enc (xorL xs ys) k n).length) c36), (17, .int .i64 (m : Int))] (by as_aux_lemma => kernel_rfl) ?_
            refine WK.draw1 24 [(0, .qui), (1, .qui), (2, .qui), (3, .qui), (4, .qui), (5, .qui), (6, .qui), (7, .qui), (8, .qui), (9, .qui), (10, .qui), (11, .qui), (12, .qui), (13, .qui), (14, .qui), (15, .qui), (16, .qui), (17, .qui), (18, .qui), (19, .qui), (20, .qui), (21, .qui), (22, .qui), (23, .qui)] [(0, .qui), (1, .qui), (2, .qui), (3, .qui), (4, .qui), (5, .qui), (6, .qui), (7, .qui), (8, .qui), (9, .qui), (10, .qui), (11, .qui), (12, .qui), (13, .qui), (14, .qui), (15, .qui), (16, .qui), (17, .qui), (18, .qui), (19, .qui), (20, .qui), (21, .qui), (22, .qui), (23, .qui)] Try_mixed (by as_aux_lemma => kernel_rfl) (by as_aux_lemma => kernel_rfl) (by as_aux_lemma => kernel_rfl) ?_
            have H := H.draw
            generalize ({ w43 with drawn := w43.drawn + 1 } : World) = w45 at H ⊢
            refine RW.runP 2 [11, 13, 15, 17, 92, 93] [(2, .qui), (3, .qui), (4, .qui), (5, .qui), (6, .qui), (7, .qui), (8, .qui), (9, .qui), (10, .qui), (11, .qui), (12, .qui), (13, .qui), (14, .qui), (15, .qui), (16, .qui), (17, .qui), (18, .qui), (19, .qui), (20, .qui), (21, .qui), (22, .qui), (23, .qui)] [(11, .slice a23 ((enc xs k n).length) c24), (13, .slice a29 ((enc ys k n).length) c30), (15, .slice a35 ((enc (xorL xs ys) k n).length) c36), (17, .int .i64 (m : Int)), (92, .slice a23 ((enc xs k n).length) c24), (93, .int .i64 (m : Int))] (by as_aux_lemma => kernel_rfl) (by as_aux_lemma => kernel_rfl) ?_
            have hx46 : m < (enc xs k n).length := by omega
            refine RW.index (κ := .qui) (d := some 94) (r := [(3, .qui), (4, .qui), (5, .qui), (6, .qui), (7, .qui), (8, .qui), (9, .qui), (10, .qui), (11, .qui), (12, .qui), (13, .qui), (14, .qui), (15, .qui), (16, .qui), (17, .qui), (18, .qui), (19, .qui), (20, .qui), (21, .qui), (22, .qui), (23, .qui)]) (T := 29) (e := 23) (ik := .i64) (ix := (m : Int)) (sh := (Shape.slice (Shape.bv .u8 8))) (x := (enc xs k n)[m]) (by as_aux_lemma => kernel_rfl) (by as_aux_lemma => kernel_rfl) H 2 rfl m (by omega) (List.getElem?_eq_getElem hx46) ?_
            intro b47 o48 es49 hr50 H
            obtain ⟨a51, k52, rfl⟩ := Shape.slice_form' hr50
            have H := H.add (F := Rp (Shape.slice (Shape.bv .u8 8)) [.slice a51 (((enc xs k n)[m]).length) k52] ((enc xs k n)[m])) hr50
            refine RW.load (κ := .qui) (d := some 95) (r := [(4, .qui), (5, .qui), (6, .qui), (7, .qui), (8, .qui), (9, .qui), (10, .qui), (11, .qui), (12, .qui), (13, .qui), (14, .qui), (15, .qui), (16, .qui), (17, .qui), (18, .qui), (19, .qui), (20, .qui), (21, .qui), (22, .qui), (23, .qui)]) (T := 23) (b := b47) (o' := o48) (k := 0) (v := .slice a51 (((enc xs k n)[m]).length) k52) (by as_aux_lemma => kernel_rfl) (H.fc 1 rfl) rfl (by as_aux_lemma => kernel_rfl) ?_
            refine RW.runP 3 [11, 13, 15, 17, 96, 97, 98] [(7, .qui), (8, .qui), (9, .qui), (10, .qui), (11, .qui), (12, .qui), (13, .qui), (14, .qui), (15, .qui), (16, .qui), (17, .qui), (18, .qui), (19, .qui), (20, .qui), (21, .qui), (22, .qui), (23, .qui)] [(11, .slice a23 ((enc xs k n).length) c24), (13, .slice a29 ((enc ys k n).length) c30), (15, .slice a35 ((enc (xorL xs ys) k n).length) c36), (17, .int .i64 (m : Int)), (96, .int .i64 ((((enc xs k n)[m]).length : Nat) : Int)), (97, .slice a29 ((enc ys k n).length) c30), (98, .int .i64 (m : Int))] (by as_aux_lemma => kernel_rfl) (by as_aux_lemma => kernel_rfl) ?_
            have hx53 : m < (enc ys k n).length := by omega
            refine RW.index (κ := .qui) (d := some 99) (r := [(8, .qui), (9, .qui), (10, .qui), (11, .qui), (12, .qui), (13, .qui), (14, .qui), (15, .qui), (16, .qui), (17, .qui), (18, .qui), (19, .qui), (20, .qui), (21, .qui), (22, .qui), (23, .qui)]) (T := 29) (e := 23) (ik := .i64) (ix := (m : Int)) (sh := (Shape.slice (Shape.bv .u8 8))) (x := (enc ys k n)[m]) (by as_aux_lemma => kernel_rfl) (by as_aux_lemma => kernel_rfl) H 3 rfl m (by omega) (List.getElem?_eq_getElem hx53) ?_
            intro b54 o55 es56 hr57 H
            obtain ⟨a58, k59, rfl⟩ := Shape.slice_form' hr57
            have H := H.add (F := Rp (Shape.slice (Shape.bv .u8 8)) [.slice a58 (((enc ys k n)[m]).length) k59] ((enc ys k n)[m])) hr57
            refine RW.load (κ := .qui) (d := some 100) (r := [(9, .qui), (10, .qui), (11, .qui), (12, .qui), (13, .qui), (14, .qui), (15, .qui), (16, .qui), (17, .qui), (18, .qui), (19, .qui), (20, .qui), (21, .qui), (22, .qui), (23, .qui)]) (T := 23) (b := b54) (o' := o55) (k := 0) (v := .slice a58 (((enc ys k n)[m]).length) k59) (by as_aux_lemma => kernel_rfl) (H.fc 1 rfl) rfl (by as_aux_lemma => kernel_rfl) ?_
            refine RW.runP 3 [11, 13, 15, 17, 103] [(12, .qui), (13, .qui), (14, .qui), (15, .qui), (16, .qui), (17, .qui), (18, .qui), (19, .qui), (20, .qui), (21, .qui), (22, .qui), (23, .qui)] [(11, .slice a23 ((enc xs k n).length) c24), (13, .slice a29 ((enc ys k n).length) c30), (15, .slice a35 ((enc (xorL xs ys) k n).length) c36), (17, .int .i64 (m : Int)), (103, .bool (((((enc xs k n)[m]).length : Nat) : Int) != ((((enc ys k n)[m]).length : Nat) : Int)))] (by as_aux_lemma => kernel_rfl) (by as_aux_lemma => kernel_rfl) ?_
            refine RW.test (fun b_ => [(11, .slice a23 ((enc xs k n).length) c24), (13, .slice a29 ((enc ys k n).length) c30), (15, .slice a35 ((enc (xorL xs ys) k n).length) c36), (17, .int .i64 (m : Int)), (103, .bool b_)]) (((((enc xs k n)[m]).length : Nat) : Int) != ((((enc ys k n)[m]).length : Nat) : Int)) (fun h60 => ?_) (fun h60 => ?_)
            · skip
              replace h60 := bne_iff_ne.1 h60
              omega
            · skip
              replace h60 := (bne_eq_false_iff_eq.1 h60)
              refine RW.runP 2 [11, 13, 15, 17, 103, 104, 105] [(14, .qui), (15, .qui), (16, .qui), (17, .qui), (18, .qui), (19, .qui), (20, .qui), (21, .qui), (22, .qui), (23, .qui)] [(11, .slice a23 ((enc xs k n).length) c24), (13, .slice a29 ((enc ys k n).length) c30), (15, .slice a35 ((enc (xorL xs ys) k n).length) c36), (17, .int .i64 (m : Int)), (103, .bool false), (104, .slice a23 ((enc xs k n).length) c24), (105, .int .i64 (m : Int))] (by as_aux_lemma => kernel_rfl) (by as_aux_lemma => kernel_rfl) ?_
              have hx61 : m < (enc xs k n).length := by omega
              refine RW.index (κ := .qui) (d := some 106) (r := [(15, .qui), (16, .qui), (17, .qui), (18, .qui), (19, .qui), (20, .qui), (21, .qui), (22, .qui), (23, .qui)]) (T := 29) (e := 23) (ik := .i64) (ix := (m : Int)) (sh := (Shape.slice (Shape.bv .u8 8))) (x := (enc xs k n)[m]) (by as_aux_lemma => kernel_rfl) (by as_aux_lemma => kernel_rfl) H 6 rfl m (by omega) (List.getElem?_eq_getElem hx61) ?_
              intro b62 o63 es64 hr65 H
              obtain ⟨a66, k67, rfl⟩ := Shape.slice_form' hr65
              have H := H.add (F := Rp (Shape.slice (Shape.bv .u8 8)) [.slice a66 (((enc xs k n)[m]).length) k67] ((enc xs k n)[m])) hr65
              refine RW.load (κ := .qui) (d := some 107) (r := [(16, .qui), (17, .qui), (18, .qui), (19, .qui), (20, .qui), (21, .qui), (22, .qui), (23, .qui)]) (T := 23) (b := b62) (o' := o63) (k := 0) (v := .slice a66 (((enc xs k n)[m]).length) k67) (by as_aux_lemma => kernel_rfl) (H.fc 1 rfl) rfl (by as_aux_lemma => kernel_rfl) ?_
              refine RW.runP 3 [11, 13, 15, 17, 103, 108, 109, 110] [(19, .qui), (20, .qui), (21, .qui), (22, .qui), (23, .qui)] [(11, .slice a23 ((enc xs k n).length) c24), (13, .slice a29 ((enc ys k n).length) c30), (15, .slice a35 ((enc (xorL xs ys) k n).length) c36), (17, .int .i64 (m : Int)), (103, .bool false), (108, .int .i64 ((((enc xs k n)[m]).length : Nat) : Int)), (109, .slice a35 ((enc (xorL xs ys) k n).length) c36), (110, .int .i64 (m : Int))] (by as_aux_lemma => kernel_rfl) (by as_aux_lemma => kernel_rfl) ?_
              have hx68 : m < (enc (xorL xs ys) k n).length := by omega
              refine RW.index (κ := .qui) (d := some 111) (r := [(20, .qui), (21, .qui), (22, .qui), (23, .qui)]) (T := 29) (e := 23) (ik := .i64) (ix := (m : Int)) (sh := (Shape.slice (Shape.bv .u8 8))) (x := (enc (xorL xs ys) k n)[m]) (by as_aux_lemma => kernel_rfl) (by as_aux_lemma => kernel_rfl) H 6 rfl m (by omega) (List.getElem?_eq_getElem hx68) ?_
              intro b69 o70 es71 hr72 H
              obtain ⟨a73, k74, rfl⟩ := Shape.slice_form' hr72
              have H := H.add (F := Rp (Shape.slice (Shape.bv .u8 8)) [.slice a73 (((enc (xorL xs ys) k n)[m]).length) k74] ((enc (xorL xs ys) k n)[m])) hr72
              refine RW.load (κ := .qui) (d := some 112) (r := [(21, .qui), (22, .qui), (23, .qui)]) (T := 23) (b := b69) (o' := o70) (k := 0) (v := .slice a73 (((enc (xorL xs ys) k n)[m]).length) k74) (by as_aux_lemma => kernel_rfl) (H.fc 1 rfl) rfl (by as_aux_lemma => kernel_rfl) ?_
              refine RW.fin 3 [11, 13, 15, 17, 115] [(11, .slice a23 ((enc xs k n).length) c24), (13, .slice a29 ((enc ys k n).length) c30), (15, .slice a35 ((enc (xorL xs ys) k n).length) c36), (17, .int .i64 (m : Int)), (115, .bool (((((enc xs k n)[m]).length : Nat) : Int) != ((((enc (xorL xs ys) k n)[m]).length : Nat) : Int)))] (by as_aux_lemma => kernel_rfl) ?_
              refine WK.cond1 (((((enc xs k n)[m]).length : Nat) : Int) != ((((enc (xorL xs ys) k n)[m]).length : Nat) : Int)) (by as_aux_lemma => kernel_rfl) (by as_aux_lemma => kernel_rfl) (fun h75 => ?_) (fun h75 => ?_)
              · skip
                replace h75 := bne_iff_ne.1 h75
                omega
              · skip
                replace h75 := (bne_eq_false_iff_eq.1 h75)
                refine WK.run 4 [11, 13, 15, 17, 18] [.code (cd Try.prog 6 [8, 0, 1, 0, 0, 1, 0, 0, 2, 0]), .inBlock 4, .inBlock 3, .code (cd Try.prog 6 [8, 0, 1, 0, 0, 2]), .inLoop (cd Try.prog 6 [8, 0, 1, 0, 0]), .inBlock 2, .code (cd Try.prog 6 [9])] [(11, .slice a23 ((enc xs k n).length) c24), (13, .slice a29 ((enc ys k n).length) c30), (15, .slice a35 ((enc (xorL xs ys) k n).length) c36), (17, .int .i64 (m : Int)), (18, .int .i64 0)] (by as_aux_lemma => kernel_rfl) ?_
                have H := H.pick [0, 2, 4, 6, 8, 9, 10] (G' := [Rp (Shape.slice (Shape.bv .u8 8)) [.slice a73 (((enc (xorL xs ys) k n)[m]).length) k74] ((enc (xorL xs ys) k n)[m]), Rp (Shape.slice (Shape.bv .u8 8)) [.slice a66 (((enc xs k n)[m]).length) k67] ((enc xs k n)[m]), Rp (Shape.slice (Shape.bv .u8 8)) [.slice a58 (((enc ys k n)[m]).length) k59] ((enc ys k n)[m]), Rp (Shape.slice (Shape.bv .u8 8)) [.slice a51 (((enc xs k n)[m]).length) k52] ((enc xs k n)[m]), Rp (Shape.slice (Shape.slice (Shape.bv .u8 8))) [.slice a35 ((enc (xorL xs ys) k n).length) c36] (enc (xorL xs ys) k n), Rp (Shape.slice (Shape.slice (Shape.bv .u8 8))) [.slice a29 ((enc ys k n).length) c30] (enc ys k n), Rp (Shape.slice (Shape.slice (Shape.bv .u8 8))) [.slice a23 ((enc xs k n).length) c24] (enc xs k n)]) rfl
                refine WK.loop (α := Nat) (b := cd Try.prog 6 [8, 0, 1, 0, 0, 1, 0, 0, 2, 0, 0]) (by as_aux_lemma => kernel_rfl) (fun p => [(11, .slice a23 ((enc xs k n).length) c24), (13, .slice a29 ((enc ys k n).length) c30), (15, .slice a35 ((enc (xorL xs ys) k n).length) c36), (17, .int .i64 (m : Int)), (18, .int .i64 (p : Int))]) (fun p w' => Hp w S [] [] [] [Rp (Shape.slice (Shape.bv .u8 8)) [.slice a73 (((enc (xorL xs ys) k n)[m]).length) k74] ((enc (xorL xs ys) k n)[m]), Rp (Shape.slice (Shape.bv .u8 8)) [.slice a66 (((enc xs k n)[m]).length) k67] ((enc xs k n)[m]), Rp (Shape.slice (Shape.bv .u8 8)) [.slice a58 (((enc ys k n)[m]).length) k59] ((enc ys k n)[m]), Rp (Shape.slice (Shape.bv .u8 8)) [.slice a51 (((enc xs k n)[m]).length) k52] ((enc xs k n)[m]), Rp (Shape.slice (Shape.slice (Shape.bv .u8 8))) [.slice a35 ((enc (xorL xs ys) k n).length) c36] (enc (xorL xs ys) k n), Rp (Shape.slice (Shape.slice (Shape.bv .u8 8))) [.slice a29 ((enc ys k n).length) c30] (enc ys k n), Rp (Shape.slice (Shape.slice (Shape.bv .u8 8))) [.slice a23 ((enc xs k n).length) c24] (enc xs k n)] w' ∧ True) (fun p => ((enc xs k n)[m]).length - p) 0 ⟨H, trivial⟩ (rfl) ?_
                rintro p w77 ⟨H, hinv2⟩ hback76
                refine WK.run 2 [11, 13, 15, 17, 18] [.code (cd Try.prog 6 [8, 0, 1, 0, 0, 1, 0, 0, 2, 0, 0, 0, 0]), .code (cd Try.prog 6 [8, 0, 1, 0, 0, 1, 0, 0, 2, 0, 0, 0, 1]), .code (cd Try.prog 6 [8, 0, 1, 0, 0, 1, 0, 0, 2, 0, 0, 1]), .inLoop (cd Try.prog 6 [8, 0, 1, 0, 0, 1, 0, 0, 2, 0, 0]), .inBlock 4, .inBlock 3, .code (cd Try.prog 6 [8, 0, 1, 0, 0, 2]), .inLoop (cd Try.prog 6 [8, 0, 1, 0, 0]), .inBlock 2, .code (cd Try.prog 6 [9])] [(11, .slice a23 ((enc xs k n).length) c24), (13, .slice a29 ((enc ys k n).length) c30), (15, .slice a35 ((enc (xorL xs ys) k n).length) c36), (17, .int .i64 (m : Int)), (18, .int .i64 (p : Int))] (by as_aux_lemma => kernel_rfl) ?_
                refine WK.reg1 (l := sq 0 7) (by as_aux_lemma => kernel_rfl) (by as_aux_lemma => kernel_rfl) ?_
                refine RW.runP 3 [11, 13, 15, 17, 18, 116, 117, 118] (sq 3 7) [(11, .slice a23 ((enc xs k n).length) c24), (13, .slice a29 ((enc ys k n).length) c30), (15, .slice a35 ((enc (xorL xs ys) k n).length) c36), (17, .int .i64 (m : Int)), (18, .int .i64 (p : Int)), (116, .int .i64 (p : Int)), (117, .slice a23 ((enc xs k n).length) c24), (118, .int .i64 (m : Int))] (by as_aux_lemma => kernel_rfl) (by as_aux_lemma => kernel_rfl) ?_
                have hx78 : m < (enc xs k n).length := by omega
                refine RW.index (κ := .seq) (d := some 119) (r := (sq 4 7)) (T := 29) (e := 23) (ik := .i64) (ix := (m : Int)) (sh := (Shape.slice (Shape.bv .u8 8))) (x := (enc xs k n)[m]) (by as_aux_lemma => kernel_rfl) (by as_aux_lemma => kernel_rfl) H 6 rfl m (by omega) (List.getElem?_eq_getElem hx78) ?_
                intro b79 o80 es81 hr82 H
                obtain ⟨a83, k84, rfl⟩ := Shape.slice_form' hr82
                have H := H.add (F := Rp (Shape.slice (Shape.bv .u8 8)) [.slice a83 (((enc xs k n)[m]).length) k84] ((enc xs k n)[m])) hr82
                refine RW.load (κ := .seq) (d := some 120) (r := (sq 5 7)) (T := 23) (b := b79) (o' := o80) (k := 0) (v := .slice a83 (((enc xs k n)[m]).length) k84) (by as_aux_lemma => kernel_rfl) (H.fc 1 rfl) rfl (by as_aux_lemma => kernel_rfl) ?_
                refine RW.fin 2 [11, 13, 15, 17, 18, 122] [(11, .slice a23 ((enc xs k n).length) c24), (13, .slice a29 ((enc ys k n).length) c30), (15, .slice a35 ((enc (xorL xs ys) k n).length) c36), (17, .int .i64 (m : Int)), (18, .int .i64 (p : Int)), (122, .bool (decide (((p : Int) : Int) < ((((enc xs k n)[m]).length : Nat) : Int))))] (by as_aux_lemma => kernel_rfl) ?_
                refine WK.cond1 (decide (((p : Int) : Int) < ((((enc xs k n)[m]).length : Nat) : Int))) (by as_aux_lemma => kernel_rfl) (by as_aux_lemma => kernel_rfl) (fun h85 => ?_) (fun h85 => ?_)
                · skip
                  replace h85 := of_decide_eq_true h85
                  refine WK.run 4 [11, 13, 15, 17, 18] [.code (cd Try.prog 6 [8, 0, 1, 0, 0, 1, 0, 0, 2, 0, 0, 1, 0, 0, 0]), .code (cd Try.prog 6 [8, 0, 1, 0, 0, 1, 0, 0, 2, 0, 0, 1, 0, 0, 1]), .inBlock 5, .code (cd Try.prog 6 [8, 0, 1, 0, 0, 1, 0, 0, 2, 0, 0, 2]), .inLoop (cd Try.prog 6 [8, 0, 1, 0, 0, 1, 0, 0, 2, 0, 0]), .inBlock 4, .inBlock 3, .code (cd Try.prog 6 [8, 0, 1, 0, 0, 2]), .inLoop (cd Try.prog 6 [8, 0, 1, 0, 0]), .inBlock 2, .code (cd Try.prog 6 [9])] [(11, .slice a23 ((enc xs k n).length) c24), (13, .slice a29 ((enc ys k n).length) c30), (15, .slice a35 ((enc (xorL xs ys) k n).length) c36), (17, .int .i64 (m : Int)), (18, .int .i64 (p : Int))] (by as_aux_lemma => kernel_rfl) ?_
                  refine WK.draw1 23 [(0, .qui), (1, .qui), (2, .qui), (3, .qui), (4, .qui), (5, .qui), (6, .qui), (7, .qui), (8, .qui), (9, .qui), (10, .qui), (11, .qui), (12, .qui), (13, .qui), (14, .qui), (15, .qui), (16, .qui), (17, .qui), (18, .qui), (19, .qui), (20, .qui), (21, .qui), (22, .qui)] [(0, .qui), (1, .qui), (2, .qui), (3, .qui), (4, .qui), (5, .qui), (6, .qui), (7, .qui), (8, .qui), (9, .qui), (10, .qui), (11, .qui), (12, .qui), (13, .qui), (14, .qui), (15, .qui), (16, .qui), (17, .qui), (18, .qui), (19, .qui), (20, .qui), (21, .qui), (22, .qui)] Try_mixed (by as_aux_lemma => kernel_rfl) (by as_aux_lemma => kernel_rfl) (by as_aux_lemma => kernel_rfl) ?_
                  have H := H.draw
                  generalize ({ w77 with drawn := w77.drawn + 1 } : World) = w86 at H ⊢
                  refine RW.runP 2 [11, 13, 15, 17, 18, 125, 126] [(2, .qui), (3, .qui), (4, .qui), (5, .qui), (6, .qui), (7, .qui), (8, .qui), (9, .qui), (10, .qui), (11, .qui), (12, .qui), (13, .qui), (14, .qui), (15, .qui), (16, .qui), (17, .qui), (18, .qui), (19, .qui), (20, .qui), (21, .qui), (22, .qui)] [(11, .slice a23 ((enc xs k n).length) c24), (13, .slice a29 ((enc ys k n).length) c30), (15, .slice a35 ((enc (xorL xs ys) k n).length) c36), (17, .int .i64 (m : Int)), (18, .int .i64 (p : Int)), (125, .slice a23 ((enc xs k n).length) c24), (126, .int .i64 (m : Int))] (by as_aux_lemma => kernel_rfl) (by as_aux_lemma => kernel_rfl) ?_
                  have hx87 : m < (enc xs k n).length := by omega
                  refine RW.index (κ := .qui) (d := some 127) (r := [(3, .qui), (4, .qui), (5, .qui), (6, .qui), (7, .qui), (8, .qui), (9, .qui), (10, .qui), (11, .qui), (12, .qui), (13, .qui), (14, .qui), (15, .qui), (16, .qui), (17, .qui), (18, .qui), (19, .qui), (20, .qui), (21, .qui), (22, .qui)]) (T := 29) (e := 23) (ik := .i64) (ix := (m : Int)) (sh := (Shape.slice (Shape.bv .u8 8))) (x := (enc xs k n)[m]) (by as_aux_lemma => kernel_rfl) (by as_aux_lemma => kernel_rfl) H 8 rfl m (by omega) (List.getElem?_eq_getElem hx87) ?_
                  intro b88 o89 es90 hr91 H
                  obtain ⟨a92, k93, rfl⟩ := Shape.slice_form' hr91
                  have H := H.add (F := Rp (Shape.slice (Shape.bv .u8 8)) [.slice a92 (((enc xs k n)[m]).length) k93] ((enc xs k n)[m])) hr91
                  refine RW.load (κ := .qui) (d := some 128) (r := [(4, .qui), (5, .qui), (6, .qui), (7, .qui), (8, .qui), (9, .qui), (10, .qui), (11, .qui), (12, .qui), (13, .qui), (14, .qui), (15, .qui), (16, .qui), (17, .qui), (18, .qui), (19, .qui), (20, .qui), (21, .qui), (22, .qui)]) (T := 23) (b := b88) (o' := o89) (k := 0) (v := .slice a92 (((enc xs k n)[m]).length) k93) (by as_aux_lemma => kernel_rfl) (H.fc 1 rfl) rfl (by as_aux_lemma => kernel_rfl) ?_
                  refine RW.runP 1 [11, 13, 15, 17, 18, 128, 129] [(5, .qui), (6, .qui), (7, .qui), (8, .qui), (9, .qui), (10, .qui), (11, .qui), (12, .qui), (13, .qui), (14, .qui), (15, .qui), (16, .qui), (17, .qui), (18, .qui), (19, .qui), (20, .qui), (21, .qui), (22, .qui)] [(11, .slice a23 ((enc xs k n).length) c24), (13, .slice a29 ((enc ys k n).length) c30), (15, .slice a35 ((enc (xorL xs ys) k n).length) c36), (17, .int .i64 (m : Int)), (18, .int .i64 (p : Int)), (128, .slice a92 (((enc xs k n)[m]).length) k93), (129, .int .i64 (p : Int))] (by as_aux_lemma => kernel_rfl) (by as_aux_lemma => kernel_rfl) ?_
                  have hx94 : p < ((enc xs k n)[m]).length := by omega
                  refine RW.index (κ := .qui) (d := some 130) (r := [(6, .qui), (7, .qui), (8, .qui), (9, .qui), (10, .qui), (11, .qui), (12, .qui), (13, .qui), (14, .qui), (15, .qui), (16, .qui), (17, .qui), (18, .qui), (19, .qui), (20, .qui), (21, .qui), (22, .qui)]) (T := 23) (e := 5) (ik := .i64) (ix := (p : Int)) (sh := (Shape.bv .u8 8)) (x := ((enc xs k n)[m])[p]) (by as_aux_lemma => kernel_rfl) (by as_aux_lemma => kernel_rfl) H 0 rfl p (by omega) (List.getElem?_eq_getElem hx94) ?_
                  intro b95 o96 es97 hr98 H
                  obtain rfl := hr98
                  refine RW.load (κ := .qui) (d := some 131) (r := [(7, .qui), (8, .qui), (9, .qui), (10, .qui), (11, .qui), (12, .qui), (13, .qui), (14, .qui), (15, .qui), (16, .qui), (17, .qui), (18, .qui), (19, .qui), (20, .qui), (21, .qui), (22, .qui)]) (T := 5) (b := b95) (o' := o96) (k := 0) (v := .int .u8 (((((enc xs k n)[m])[p]).toNat : Nat) : Int)) (by as_aux_lemma => kernel_rfl) (H.fc 0 rfl) rfl (by as_aux_lemma => kernel_rfl) ?_
                  refine RW.runP 2 [11, 13, 15, 17, 18, 131, 132, 133] [(9, .qui), (10, .qui), (11, .qui), (12, .qui), (13, .qui), (14, .qui), (15, .qui), (16, .qui), (17, .qui), (18, .qui), (19, .qui), (20, .qui), (21, .qui), (22, .qui)] [(11, .slice a23 ((enc xs k n).length) c24), (13, .slice a29 ((enc ys k n).length) c30), (15, .slice a35 ((enc (xorL xs ys) k n).length) c36), (17, .int .i64 (m : Int)), (18, .int .i64 (p : Int)), (131, .int .u8 (((((enc xs k n)[m])[p]).toNat : Nat) : Int)), (132, .slice a29 ((enc ys k n).length) c30), (133, .int .i64 (m : Int))] (by as_aux_lemma => kernel_rfl) (by as_aux_lemma => kernel_rfl) ?_
                  have hx99 : m < (enc ys k n).length := by omega
                  refine RW.index (κ := .qui) (d := some 134) (r := [(10, .qui), (11, .qui), (12, .qui), (13, .qui), (14, .qui), (15, .qui), (16, .qui), (17, .qui), (18, .qui), (19, .qui), (20, .qui), (21, .qui), (22, .qui)]) (T := 29) (e := 23) (ik := .i64) (ix := (m : Int)) (sh := (Shape.slice (Shape.bv .u8 8))) (x := (enc ys k n)[m]) (by as_aux_lemma => kernel_rfl) (by as_aux_lemma => kernel_rfl) H 10 rfl m (by omega) (List.getElem?_eq_getElem hx99) ?_
                  intro b100 o101 es102 hr103 H
                  obtain ⟨a104, k105, rfl⟩ := Shape.slice_form' hr103
                  have H := H.add (F := Rp (Shape.slice (Shape.bv .u8 8)) [.slice a104 (((enc ys k n)[m]).length) k105] ((enc ys k n)[m])) hr103
                  refine RW.load (κ := .qui) (d := some 135) (r := [(11, .qui), (12, .qui), (13, .qui), (14, .qui), (15, .qui), (16, .qui), (17, .qui), (18, .qui), (19, .qui), (20, .qui), (21, .qui), (22, .qui)]) (T := 23) (b := b100) (o' := o101) (k := 0) (v := .slice a104 (((enc ys k n)[m]).length) k105) (by as_aux_lemma => kernel_rfl) (H.fc 1 rfl) rfl (by as_aux_lemma => kernel_rfl) ?_
                  refine RW.runP 1 [11, 13, 15, 17, 18, 131, 135, 136] [(12, .qui), (13, .qui), (14, .qui), (15, .qui), (16, .qui), (17, .qui), (18, .qui), (19, .qui), (20, .qui), (21, .qui), (22, .qui)] [(11, .slice a23 ((enc xs k n).length) c24), (13, .slice a29 ((enc ys k n).length) c30), (15, .slice a35 ((enc (xorL xs ys) k n).length) c36), (17, .int .i64 (m : Int)), (18, .int .i64 (p : Int)), (131, .int .u8 (((((enc xs k n)[m])[p]).toNat : Nat) : Int)), (135, .slice a104 (((enc ys k n)[m]).length) k105), (136, .int .i64 (p : Int))] (by as_aux_lemma => kernel_rfl) (by as_aux_lemma => kernel_rfl) ?_
                  have hx106 : p < ((enc ys k n)[m]).length := by omega
                  refine RW.index (κ := .qui) (d := some 137) (r := [(13, .qui), (14, .qui), (15, .qui), (16, .qui), (17, .qui), (18, .qui), (19, .qui), (20, .qui), (21, .qui), (22, .qui)]) (T := 23) (e := 5) (ik := .i64) (ix := (p : Int)) (sh := (Shape.bv .u8 8)) (x := ((enc ys k n)[m])[p]) (by as_aux_lemma => kernel_rfl) (by as_aux_lemma => kernel_rfl) H 0 rfl p (by omega) (List.getElem?_eq_getElem hx106) ?_
                  intro b107 o108 es109 hr110 H
                  obtain rfl := hr110
                  refine RW.load (κ := .qui) (d := some 138) (r := [(14, .qui), (15, .qui), (16, .qui), (17, .qui), (18, .qui), (19, .qui), (20, .qui), (21, .qui), (22, .qui)]) (T := 5) (b := b107) (o' := o108) (k := 0) (v := .int .u8 (((((enc ys k n)[m])[p]).toNat : Nat) : Int)) (by as_aux_lemma => kernel_rfl) (H.fc 0 rfl) rfl (by as_aux_lemma => kernel_rfl) ?_
                  refine RW.pv (κ := .qui) (d := some 139) (r := [(15, .qui), (16, .qui), (17, .qui), (18, .qui), (19, .qui), (20, .qui), (21, .qui), (22, .qui)]) (v := .int .u8 (IntKind.u8.wrap ((BitVec.ofInt 8 (((((enc xs k n)[m])[p]).toNat : Nat) : Int) ^^^ BitVec.ofInt 8 (((((enc ys k n)[m])[p]).toNat : Nat) : Int)).toNat : Nat))) (v' := .int .u8 (((((((enc xs k n)[m])[p]) ^^^ (((enc ys k n)[m])[p])).toNat : Nat) : Int))) (by as_aux_lemma => kernel_rfl) (bv_xor8 (bvi _) (bvi _)) ?_
                  refine RW.runP 2 [11, 13, 15, 17, 18, 139, 140, 141] [(17, .qui), (18, .qui), (19, .qui), (20, .qui), (21, .qui), (22, .qui)] [(11, .slice a23 ((enc xs k n).length) c24), (13, .slice a29 ((enc ys k n).length) c30), (15, .slice a35 ((enc (xorL xs ys) k n).length) c36), (17, .int .i64 (m : Int)), (18, .int .i64 (p : Int)), (139, .int .u8 ((((((enc xs k n)[m])[p]) ^^^ (((enc ys k n)[m])[p])).toNat : Nat) : Int)), (140, .slice a35 ((enc (xorL xs ys) k n).length) c36), (141, .int .i64 (m : Int))] (by as_aux_lemma => kernel_rfl) (by as_aux_lemma => kernel_rfl) ?_
                  have hx111 : m < (enc (xorL xs ys) k n).length := by omega
                  refine RW.index (κ := .qui) (d := some 142) (r := [(18, .qui), (19, .qui), (20, .qui), (21, .qui), (22, .qui)]) (T := 29) (e := 23) (ik := .i64) (ix := (m : Int)) (sh := (Shape.slice (Shape.bv .u8 8))) (x := (enc (xorL xs ys) k n)[m]) (by as_aux_lemma => kernel_rfl) (by as_aux_lemma => kernel_rfl) H 12 rfl m (by omega) (List.getElem?_eq_getElem hx111) ?_
                  intro b112 o113 es114 hr115 H
                  obtain ⟨a116, k117, rfl⟩ := Shape.slice_form' hr115
                  have H := H.add (F := Rp (Shape.slice (Shape.bv .u8 8)) [.slice a116 (((enc (xorL xs ys) k n)[m]).length) k117] ((enc (xorL xs ys) k n)[m])) hr115
                  refine RW.load (κ := .qui) (d := some 143) (r := [(19, .qui), (20, .qui), (21, .qui), (22, .qui)]) (T := 23) (b := b112) (o' := o113) (k := 0) (v := .slice a116 (((enc (xorL xs ys) k n)[m]).length) k117) (by as_aux_lemma => kernel_rfl) (H.fc 1 rfl) rfl (by as_aux_lemma => kernel_rfl) ?_
                  refine RW.runP 1 [11, 13, 15, 17, 18, 139, 143, 144] [(20, .qui), (21, .qui), (22, .qui)] [(11, .slice a23 ((enc xs k n).length) c24), (13, .slice a29 ((enc ys k n).length) c30), (15, .slice a35 ((enc (xorL xs ys) k n).length) c36), (17, .int .i64 (m : Int)), (18, .int .i64 (p : Int)), (139, .int .u8 ((((((enc xs k n)[m])[p]) ^^^ (((enc ys k n)[m])[p])).toNat : Nat) : Int)), (143, .slice a116 (((enc (xorL xs ys) k n)[m]).length) k117), (144, .int .i64 (p : Int))] (by as_aux_lemma => kernel_rfl) (by as_aux_lemma => kernel_rfl) ?_
                  have hx118 : p < ((enc (xorL xs ys) k n)[m]).length := by omega
                  refine RW.index (κ := .qui) (d := some 145) (r := [(21, .qui), (22, .qui)]) (T := 23) (e := 5) (ik := .i64) (ix := (p : Int)) (sh := (Shape.bv .u8 8)) (x := ((enc xs k n)[m][p] ^^^ (enc ys k n)[m][p])) (by as_aux_lemma => kernel_rfl) (by as_aux_lemma => kernel_rfl) H 0 rfl p (by omega) (enc_xor_get hxy (by omega) (by omega) (by omega) (by omega) (by omega)) ?_
                  intro b119 o120 es121 hr122 H
                  obtain rfl := hr122
                  refine RW.load (κ := .qui) (d := some 146) (r := [(22, .qui)]) (T := 5) (b := b119) (o' := o120) (k := 0) (v := .int .u8 ((((enc xs k n)[m][p] ^^^ (enc ys k n)[m][p]).toNat : Nat) : Int)) (by as_aux_lemma => kernel_rfl) (H.fc 0 rfl) rfl (by as_aux_lemma => kernel_rfl) ?_
                  refine RW.fin 1 [11, 13, 15, 17, 18, 147] [(11, .slice a23 ((enc xs k n).length) c24), (13, .slice a29 ((enc ys k n).length) c30), (15, .slice a35 ((enc (xorL xs ys) k n).length) c36), (17, .int .i64 (m : Int)), (18, .int .i64 (p : Int)), (147, .bool (((((((enc xs k n)[m])[p]) ^^^ (((enc ys k n)[m])[p])).toNat : Nat) : Int) != ((((enc xs k n)[m][p] ^^^ (enc ys k n)[m][p]).toNat : Nat) : Int)))] (by as_aux_lemma => kernel_rfl) ?_
                  refine WK.cond1 (((((((enc xs k n)[m])[p]) ^^^ (((enc ys k n)[m])[p])).toNat : Nat) : Int) != ((((enc xs k n)[m][p] ^^^ (enc ys k n)[m][p]).toNat : Nat) : Int)) (by as_aux_lemma => kernel_rfl) (by as_aux_lemma => kernel_rfl) (fun h123 => ?_) (fun h123 => ?_)
                  · skip
                    replace h123 := bne_iff_ne.1 h123
                    exact absurd rfl h123
                  · skip
                    replace h123 := (bne_eq_false_iff_eq.1 h123)
                    refine WK.run 2 [11, 13, 15, 17, 18] [.code (cd Try.prog 6 [8, 0, 1, 0, 0, 1, 0, 0, 2, 0, 0, 2]), .inLoop (cd Try.prog 6 [8, 0, 1, 0, 0, 1, 0, 0, 2, 0, 0]), .inBlock 4, .inBlock 3, .code (cd Try.prog 6 [8, 0, 1, 0, 0, 2]), .inLoop (cd Try.prog 6 [8, 0, 1, 0, 0]), .inBlock 2, .code (cd Try.prog 6 [9])] [(11, .slice a23 ((enc xs k n).length) c24), (13, .slice a29 ((enc ys k n).length) c30), (15, .slice a35 ((enc (xorL xs ys) k n).length) c36), (17, .int .i64 (m : Int)), (18, .int .i64 (p : Int))] (by as_aux_lemma => kernel_rfl) ?_
                    refine WK.reg1 (l := sq 0 3) (by as_aux_lemma => kernel_rfl) (by as_aux_lemma => kernel_rfl) ?_
                    refine RW.runP 1 [11, 13, 15, 17, 18, 123] (sq 1 3) [(11, .slice a23 ((enc xs k n).length) c24), (13, .slice a29 ((enc ys k n).length) c30), (15, .slice a35 ((enc (xorL xs ys) k n).length) c36), (17, .int .i64 (m : Int)), (18, .int .i64 (p : Int)), (123, .int .i64 (p : Int))] (by as_aux_lemma => kernel_rfl) (by as_aux_lemma => kernel_rfl) ?_
                    refine RW.wr64 (κ := .seq) (d := some 124) (r := (sq 2 3)) (t := (p : Int) + 1) (by as_aux_lemma => kernel_rfl) (by omega) ?_
                    refine RW.fin 1 [11, 13, 15, 17, 18] [(11, .slice a23 ((enc xs k n).length) c24), (13, .slice a29 ((enc ys k n).length) c30), (15, .slice a35 ((enc (xorL xs ys) k n).length) c36), (17, .int .i64 (m : Int)), (18, .int .i64 ((p : Int) + 1))] (by as_aux_lemma => kernel_rfl) ?_
                    have H := H.pick [11, 12, 13, 14, 15, 16, 17] (G' := [Rp (Shape.slice (Shape.bv .u8 8)) [.slice a73 (((enc (xorL xs ys) k n)[m]).length) k74] ((enc (xorL xs ys) k n)[m]), Rp (Shape.slice (Shape.bv .u8 8)) [.slice a66 (((enc xs k n)[m]).length) k67] ((enc xs k n)[m]), Rp (Shape.slice (Shape.bv .u8 8)) [.slice a58 (((enc ys k n)[m]).length) k59] ((enc ys k n)[m]), Rp (Shape.slice (Shape.bv .u8 8)) [.slice a51 (((enc xs k n)[m]).length) k52] ((enc xs k n)[m]), Rp (Shape.slice (Shape.slice (Shape.bv .u8 8))) [.slice a35 ((enc (xorL xs ys) k n).length) c36] (enc (xorL xs ys) k n), Rp (Shape.slice (Shape.slice (Shape.bv .u8 8))) [.slice a29 ((enc ys k n).length) c30] (enc ys k n), Rp (Shape.slice (Shape.slice (Shape.bv .u8 8))) [.slice a23 ((enc xs k n).length) c24] (enc xs k n)]) rfl
                    exact WK.back (hback76 (p + 1) _ ⟨H, trivial⟩ (by first | omega | (simp only []; omega))) (by as_aux_lemma => kernel_rfl)
                · skip
                  replace h85 := of_decide_eq_false h85
                  refine WK.run 2 [11, 13, 15, 17] [.code (cd Try.prog 6 [8, 0, 1, 0, 0, 2]), .inLoop (cd Try.prog 6 [8, 0, 1, 0, 0]), .inBlock 2, .code (cd Try.prog 6 [9])] [(11, .slice a23 ((enc xs k n).length) c24), (13, .slice a29 ((enc ys k n).length) c30), (15, .slice a35 ((enc (xorL xs ys) k n).length) c36), (17, .int .i64 (m : Int))] (by as_aux_lemma => kernel_rfl) ?_
                  refine WK.reg1 (l := sq 0 3) (by as_aux_lemma => kernel_rfl) (by as_aux_lemma => kernel_rfl) ?_
                  refine RW.runP 1 [11, 13, 15, 17, 90] (sq 1 3) [(11, .slice a23 ((enc xs k n).length) c24), (13, .slice a29 ((enc ys k n).length) c30), (15, .slice a35 ((enc (xorL xs ys) k n).length) c36), (17, .int .i64 (m : Int)), (90, .int .i64 (m : Int))] (by as_aux_lemma => kernel_rfl) (by as_aux_lemma => kernel_rfl) ?_
                  refine RW.wr64 (κ := .seq) (d := some 91) (r := (sq 2 3)) (t := (m : Int) + 1) (by as_aux_lemma => kernel_rfl) (by omega) ?_
                  refine RW.fin 1 [11, 13, 15, 17] [(11, .slice a23 ((enc xs k n).length) c24), (13, .slice a29 ((enc ys k n).length) c30), (15, .slice a35 ((enc (xorL xs ys) k n).length) c36), (17, .int .i64 ((m : Int) + 1))] (by as_aux_lemma => kernel_rfl) ?_
                  have H := H.pick [6, 7, 8] (G' := [Rp (Shape.slice (Shape.slice (Shape.bv .u8 8))) [.slice a35 ((enc (xorL xs ys) k n).length) c36] (enc (xorL xs ys) k n), Rp (Shape.slice (Shape.slice (Shape.bv .u8 8))) [.slice a29 ((enc ys k n).length) c30] (enc ys k n), Rp (Shape.slice (Shape.slice (Shape.bv .u8 8))) [.slice a23 ((enc xs k n).length) c24] (enc xs k n)]) rfl
                  exact WK.back (hback42 (m + 1) _ ⟨H, by omega⟩ (by first | omega | (simp only []; omega))) (by as_aux_lemma => kernel_rfl)
          · skip
            replace h44 := of_decide_eq_false h44
            refine WK.run 2 [] [.code (cd Try.prog 6 [9, 0]), .code (cd Try.prog 6 [10])] [] (by as_aux_lemma => kernel_rfl) ?_
            refine WK.reg1 (l := sq 0 2) (by as_aux_lemma => kernel_rfl) (by as_aux_lemma => kernel_rfl) ?_
            refine RW.call (κ := .seq) (d := some 148) (r := (sq 1 2)) (g := 28) (args := #[]) (by as_aux_lemma => kernel_rfl) (nofun) (heads_spec (S := fun _ => True)) ?_
            rintro _ w124 hE125 rfl
            have H := H.ext hE125
            refine RW.fin 1 [8] [(8, .bool true)] (by as_aux_lemma => kernel_rfl) ?_
            refine WK.ret (v := .bool true) Try.func6 (by as_aux_lemma => kernel_rfl) (by as_aux_lemma => kernel_rfl) ?_
            exact ⟨_, rfl, H.done, rfl⟩


end Go.Proofs.Ytppcdmbkgficiaa
