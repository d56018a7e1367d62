import Derived.Test.YtppcdmbkgficiaaA1
namespace Go.Proofs.Ytppcdmbkgficiaa
open Go.BX

theorem pu32_spec {S : Nat → Prop} {w : World} {O : List Nat} {bp : Nat} {xs : List (BitVec 8)} {a : Option Addr} {c : Nat} {x : BitVec 32} (H0 : Hp w S O [(bp, .cells #[.slice a xs.length c, .int .i64 0, .bool true, .bool false] 183 (0, 0))] [⟨Shape.bv .u8 8, 5, .slice a xs.length c, xs⟩] [] w) (hby : xs.length + 10 ≤ 1099511627776) :
    Calls Try.prog 144 #[.pointer (some ⟨bp, 0, none⟩), .int .u32 ((x.toNat : Nat) : Int)] w (Ret fun v w' => ∃ (a' : Option Addr) (c' : Nat), (v = .int .u32 ((x.toNat : Nat) : Int)) ∧ Hp w S O [(bp, .cells #[.slice a' ((xs ++ num x.toNat).length) c', .int .i64 0, .bool true, .bool false] 183 (0, 0))] [⟨Shape.bv .u8 8, 5, .slice a' ((xs ++ num x.toNat).length) c', (xs ++ num x.toNat)⟩] [] w') := by
  have hxl := x.isLt
  refine WK.calls1 (fn := Try.f144) (n := 18) (σ := [(0, .pointer (some ⟨bp, 0, none⟩)), (1, .int .u32 ((x.toNat : Nat) : Int))]) Try.func144 rfl (by as_aux_lemma => kernel_rfl) (by as_aux_lemma => kernel_rfl) (by as_aux_lemma => kernel_rfl) ?_
  have H := H0
  refine WK.run 3 [0, 1] [.code (cd Try.prog 144 [1, 0]), .code (cd Try.prog 144 [2])] [(0, .pointer (some ⟨bp, 0, none⟩)), (1, .int .u32 ((x.toNat : Nat) : Int))] (by as_aux_lemma => kernel_rfl) ?_
  refine WK.reg1 (l := sq 0 5) (by as_aux_lemma => kernel_rfl) (by as_aux_lemma => kernel_rfl) ?_
  refine RW.runP 2 [0, 6, 7] (sq 2 5) [(0, .pointer (some ⟨bp, 0, none⟩)), (6, .pointer (some ⟨bp, 0, none⟩)), (7, .int .u32 ((x.toNat : Nat) : Int))] (by as_aux_lemma => kernel_rfl) (by as_aux_lemma => kernel_rfl) ?_
  refine RW.pv (κ := .seq) (d := some 8) (r := (sq 3 5)) (v' := .int .u64 ((x.toNat : Nat) : Int)) (v := .int .u64 (IntKind.u64.wrap (((x.toNat : Nat) : Int)))) (by as_aux_lemma => kernel_rfl) (wr_u64 (by omega)) ?_
  refine RW.callS (d := some 9) (r := (sq 4 5)) (g := 112) (args := #[.pointer (some ⟨bp, 0, none⟩), .int .u64 ((x.toNat : Nat) : Int)]) (by as_aux_lemma => kernel_rfl) (u64_spec (x := ((x.toNat : Nat) : Int)) (by omega) ((H.lend (M1 := [(bp, .cells #[.slice a xs.length c, .int .i64 0, .bool true, .bool false] 183 (0, 0))]) (W1 := [⟨Shape.bv .u8 8, 5, .slice a xs.length c, xs⟩])).pick [] rfl) (by first | omega | (simp only [List.length_append, List.length_nil]; omega))) ?_
  rintro _ w1 ⟨a3, c4, rfl, H'⟩
  have H := H.back (M1 := [(bp, .cells #[.slice a xs.length c, .int .i64 0, .bool true, .bool false] 183 (0, 0))]) (W1 := [⟨Shape.bv .u8 8, 5, .slice a xs.length c, xs⟩]) H'
  have H : Hp w S O [(bp, .cells #[.slice a3 ((xs ++ num ((x.toNat : Nat) : Int).toNat).length) c4, .int .i64 0, .bool true, .bool false] 183 (0, 0))] [⟨Shape.bv .u8 8, 5, .slice a3 ((xs ++ num ((x.toNat : Nat) : Int).toNat).length) c4, (xs ++ num ((x.toNat : Nat) : Int).toNat)⟩] [] _ := H
  refine RW.fin 1 [0, 5] [(0, .pointer (some ⟨bp, 0, none⟩)), (5, .int .u64 ((x.toNat : Nat) : Int))] (by as_aux_lemma => kernel_rfl) ?_
  refine WK.run 2 [0, 5] [.code (cd Try.prog 144 [2, 0, 0]), .code (cd Try.prog 144 [2, 0, 1]), .code (cd Try.prog 144 [3])] [(0, .pointer (some ⟨bp, 0, none⟩)), (5, .int .u64 ((x.toNat : Nat) : Int))] (by as_aux_lemma => kernel_rfl) ?_
  refine WK.reg1 (l := sq 0 3) (by as_aux_lemma => kernel_rfl) (by as_aux_lemma => kernel_rfl) ?_
  refine RW.runP 1 [0, 5, 10] (sq 1 3) [(0, .pointer (some ⟨bp, 0, none⟩)), (5, .int .u64 ((x.toNat : Nat) : Int)), (10, .int .u64 ((x.toNat : Nat) : Int))] (by as_aux_lemma => kernel_rfl) (by as_aux_lemma => kernel_rfl) ?_
  refine RW.pv (κ := .seq) (d := some 11) (r := (sq 2 3)) (v := .int .u64 (((x.toNat : Nat) : Int).fdiv (2 ^ 32))) (v' := .int .u64 (((x.toNat : Nat) : Int) / 4294967296)) (by as_aux_lemma => kernel_rfl) (shr_id (by decide) (by omega)) ?_
  refine RW.fin 1 [0, 5, 12] [(0, .pointer (some ⟨bp, 0, none⟩)), (5, .int .u64 ((x.toNat : Nat) : Int)), (12, .bool ((((x.toNat : Nat) : Int) / 4294967296) != 0))] (by as_aux_lemma => kernel_rfl) ?_
  refine WK.cond1 ((((x.toNat : Nat) : Int) / 4294967296) != 0) (by as_aux_lemma => kernel_rfl) (by as_aux_lemma => kernel_rfl) (fun h6 => ?_) (fun h6 => ?_)
  · skip
    replace h6 := bne_iff_ne.1 h6
    exact absurd h6 (by omega)
  · skip
    replace h6 := (bne_eq_false_iff_eq.1 h6)
    refine WK.run 2 [5] [.code (cd Try.prog 144 [3, 0]), .code (cd Try.prog 144 [4])] [(5, .int .u64 ((x.toNat : Nat) : Int))] (by as_aux_lemma => kernel_rfl) ?_
    refine WK.reg1 (l := sq 0 3) (by as_aux_lemma => kernel_rfl) (by as_aux_lemma => kernel_rfl) ?_
    refine RW.runP 1 [16] (sq 1 3) [(16, .int .u64 ((x.toNat : Nat) : Int))] (by as_aux_lemma => kernel_rfl) (by as_aux_lemma => kernel_rfl) ?_
    refine RW.pv (κ := .seq) (d := some 17) (r := (sq 2 3)) (v' := .int .u32 ((x.toNat : Nat) : Int)) (v := .int .u32 (IntKind.u32.wrap (((x.toNat : Nat) : Int)))) (by as_aux_lemma => kernel_rfl) (wr_u32 (by omega)) ?_
    refine RW.fin 1 [4] [(4, .int .u32 ((x.toNat : Nat) : Int))] (by as_aux_lemma => kernel_rfl) ?_
    refine WK.ret (v := .int .u32 ((x.toNat : Nat) : Int)) Try.func144 (by as_aux_lemma => kernel_rfl) (by as_aux_lemma => kernel_rfl) ?_
    exact ⟨_, rfl, _, _, by first | rfl | trivial, H.pick [] rfl⟩

def idE (D : CID) : List (BitVec 8) := num D.version.toNat ++ (intE D.index ++ num D.epoch.toNat)
def hdrE (D : Hdr) : List (BitVec 8) := idE D.id ++ (intE D.kk ++ (intE D.nn ++ (intE D.size ++ num D.sum.toNat)))
def CidOk (D : CID) : Prop := (0 ≤ D.version ∧ D.version ≤ 18446744073709551615) ∧ (-9223372036854775808 ≤ D.index ∧ D.index ≤ 9223372036854775807) ∧ (0 ≤ D.epoch ∧ D.epoch ≤ 18446744073709551615)
def HdrOk (D : Hdr) : Prop := CidOk D.id ∧ (-9223372036854775808 ≤ D.kk ∧ D.kk ≤ 9223372036854775807) ∧ (-9223372036854775808 ≤ D.nn ∧ D.nn ≤ 9223372036854775807) ∧ (-9223372036854775808 ≤ D.size ∧ D.size ≤ 9223372036854775807)
theorem idE_len {D : CID} (h : CidOk D) : (idE D).length ≤ 30 := by
  obtain ⟨h1, h2, h3⟩ := h
  unfold idE
  rw [List.length_append, List.length_append]
  have a1 : (num D.version.toNat).length ≤ 10 := num_ten (by omega)
  have a2 := intE_ten h2
  have a3 : (num D.epoch.toNat).length ≤ 10 := num_ten (by omega)
  omega
theorem hdrE_len {D : Hdr} (h : HdrOk D) : (hdrE D).length ≤ 70 := by
  obtain ⟨h1, h2, h3, h4⟩ := h
  unfold hdrE
  rw [List.length_append, List.length_append, List.length_append, List.length_append]
  have a0 := idE_len h1
  have a1 := intE_ten h2
  have a2 := intE_ten h3
  have a3 := intE_ten h4
  have a4 : (num D.sum.toNat).length ≤ 10 := num_ten (by have := D.sum.isLt; omega)
  omega

theorem pid_spec {S : Nat → Prop} {w : World} {O : List Nat} {bp : Nat} {xs : List (BitVec 8)} {a : Option Addr} {c : Nat} {D : CID} (hD : CidOk D) (H0 : Hp w S O [(bp, .cells #[.slice a xs.length c, .int .i64 0, .bool true, .bool false] 183 (0, 0))] [⟨Shape.bv .u8 8, 5, .slice a xs.length c, xs⟩] [] w) (hby : xs.length + 30 ≤ 1099511627776) :
    Calls Try.prog 143 #[.pointer (some ⟨bp, 0, none⟩), .agg #[.int .u64 D.version, .int .i64 D.index, .int .u64 D.epoch]] w (Ret fun v w' => ∃ (a' : Option Addr) (c' : Nat), (v = .agg #[.int .u64 D.version, .int .i64 D.index, .int .u64 D.epoch]) ∧ Hp w S O [(bp, .cells #[.slice a' ((xs ++ idE D).length) c', .int .i64 0, .bool true, .bool false] 183 (0, 0))] [⟨Shape.bv .u8 8, 5, .slice a' ((xs ++ idE D).length) c', (xs ++ idE D)⟩] [] w') := by
  obtain ⟨hd1, hd2, hd3⟩ := hD
  have ht0 : (num D.version.toNat).length ≤ 10 := num_ten (by omega)
  have ht1 : (intE D.index).length ≤ 10 := intE_ten hd2
  have ht2 : (num D.epoch.toNat).length ≤ 10 := num_ten (by omega)
  refine WK.calls1 (fn := Try.f143) (n := 21) (σ := [(0, .pointer (some ⟨bp, 0, none⟩)), (1, .agg #[.int .u64 D.version, .int .i64 D.index, .int .u64 D.epoch])]) Try.func143 rfl (by as_aux_lemma => kernel_rfl) (by as_aux_lemma => kernel_rfl) (by as_aux_lemma => kernel_rfl) ?_
  have H := H0
  refine WK.run 1 [0, 1] [.code (cd Try.prog 143 [0]), .code (cd Try.prog 143 [1])] [(0, .pointer (some ⟨bp, 0, none⟩)), (1, .agg #[.int .u64 D.version, .int .i64 D.index, .int .u64 D.epoch])] (by as_aux_lemma => kernel_rfl) ?_
  refine WK.reg1 (l := sq 0 2) (by as_aux_lemma => kernel_rfl) (by as_aux_lemma => kernel_rfl) ?_
  refine RW.new (κ := .seq) (d := some 3) (r := (sq 1 2)) (o := .cells #[.int .u64 D.version, .int .i64 D.index, .int .u64 D.epoch] 50 (0, 0)) (v := fun b => .pointer (some ⟨b, 0, none⟩)) (fun b => by as_aux_lemma => kernel_rfl) (nofun) H ?_
  intro b1 w2 H
  refine RW.new (κ := .seq) (d := some 4) (r := (sq 2 2)) (o := .cells #[.int .u64 0, .int .i64 0, .int .u64 0] 50 (0, 0)) (v := fun b => .pointer (some ⟨b, 0, none⟩)) (fun b => by as_aux_lemma => kernel_rfl) (nofun) H ?_
  intro b3 w4 H
  refine RW.fin 0 [0, 3, 4] [(0, .pointer (some ⟨bp, 0, none⟩)), (3, .pointer (some ⟨b1, 0, none⟩)), (4, .pointer (some ⟨b3, 0, none⟩))] (by as_aux_lemma => kernel_rfl) ?_
  refine WK.run 1 [0, 3, 4] [.code (cd Try.prog 143 [1, 0]), .code (cd Try.prog 143 [2])] [(0, .pointer (some ⟨bp, 0, none⟩)), (3, .pointer (some ⟨b1, 0, none⟩)), (4, .pointer (some ⟨b3, 0, none⟩))] (by as_aux_lemma => kernel_rfl) ?_
  refine WK.reg1 (l := sq 0 6) (by as_aux_lemma => kernel_rfl) (by as_aux_lemma => kernel_rfl) ?_
  refine RW.runP 2 [0, 3, 4, 5, 6] (sq 2 6) [(0, .pointer (some ⟨bp, 0, none⟩)), (3, .pointer (some ⟨b1, 0, none⟩)), (4, .pointer (some ⟨b3, 0, none⟩)), (5, .pointer (some ⟨bp, 0, none⟩)), (6, .pointer (some ⟨b1, 0, none⟩))] (by as_aux_lemma => kernel_rfl) (by as_aux_lemma => kernel_rfl) ?_
  refine RW.load (κ := .seq) (d := some 7) (r := (sq 3 6)) (T := 22) (b := b1) (o' := 0) (k := 0) (v := .int .u64 D.version) (by as_aux_lemma => kernel_rfl) (H.cells 1 rfl) rfl (by as_aux_lemma => kernel_rfl) ?_
  have H := H.perms (M' := [(bp, .cells #[.slice a xs.length c, .int .i64 0, .bool true, .bool false] 183 (0, 0)), (b3, .cells #[.int .u64 0, .int .i64 0, .int .u64 0] 50 (0, 0)), (b1, .cells #[.int .u64 D.version, .int .i64 D.index, .int .u64 D.epoch] 50 (0, 0))]) (W' := [⟨Shape.bv .u8 8, 5, .slice a xs.length c, xs⟩]) (List.perm_middle (l₁ := ([(b3, .cells #[.int .u64 0, .int .i64 0, .int .u64 0] 50 (0, 0)), (b1, .cells #[.int .u64 D.version, .int .i64 D.index, .int .u64 D.epoch] 50 (0, 0))] : Heap))).symm (List.Perm.refl _)
  refine RW.callS (d := some 8) (r := (sq 4 6)) (g := 112) (args := #[.pointer (some ⟨bp, 0, none⟩), .int .u64 D.version]) (by as_aux_lemma => kernel_rfl) (u64_spec (x := D.version) (by omega) ((H.lend (M1 := [(bp, .cells #[.slice a xs.length c, .int .i64 0, .bool true, .bool false] 183 (0, 0))]) (W1 := [⟨Shape.bv .u8 8, 5, .slice a xs.length c, xs⟩])).pick [] rfl) (by first | omega | (simp only [List.length_append, List.length_nil]; omega))) ?_
  rintro _ w5 ⟨a7, c8, rfl, H'⟩
  have H := H.back (M1 := [(bp, .cells #[.slice a xs.length c, .int .i64 0, .bool true, .bool false] 183 (0, 0))]) (W1 := [⟨Shape.bv .u8 8, 5, .slice a xs.length c, xs⟩]) H'
  have H : Hp w S O [(bp, .cells #[.slice a7 ((xs ++ num D.version.toNat).length) c8, .int .i64 0, .bool true, .bool false] 183 (0, 0)), (b3, .cells #[.int .u64 0, .int .i64 0, .int .u64 0] 50 (0, 0)), (b1, .cells #[.int .u64 D.version, .int .i64 D.index, .int .u64 D.epoch] 50 (0, 0))] [⟨Shape.bv .u8 8, 5, .slice a7 ((xs ++ num D.version.toNat).length) c8, (xs ++ num D.version.toNat)⟩] [] _ := H
  refine RW.runP 1 [0, 3, 4, 8, 9] (sq 5 6) [(0, .pointer (some ⟨bp, 0, none⟩)), (3, .pointer (some ⟨b1, 0, none⟩)), (4, .pointer (some ⟨b3, 0, none⟩)), (8, .int .u64 D.version), (9, .pointer (some ⟨b1, 0, none⟩))] (by as_aux_lemma => kernel_rfl) (by as_aux_lemma => kernel_rfl) ?_
  refine RW.store (d := none) (r := (sq 6 6)) (T := 22) (b := b1) (k := 0) (v := .int .u64 D.version) (c' := #[.int .u64 D.version, .int .i64 D.index, .int .u64 D.epoch]) (M' := [(bp, .cells #[.slice a7 ((xs ++ num D.version.toNat).length) c8, .int .i64 0, .bool true, .bool false] 183 (0, 0)), (b3, .cells #[.int .u64 0, .int .i64 0, .int .u64 0] 50 (0, 0)), (b1, .cells #[.int .u64 D.version, .int .i64 D.index, .int .u64 D.epoch] 50 (0, 0))]) (by as_aux_lemma => kernel_rfl) H 2 rfl (by as_aux_lemma => kernel_rfl) (by as_aux_lemma => kernel_rfl) ?_
  intro w10 H
  refine RW.fin 0 [0, 3, 4] [(0, .pointer (some ⟨bp, 0, none⟩)), (3, .pointer (some ⟨b1, 0, none⟩)), (4, .pointer (some ⟨b3, 0, none⟩))] (by as_aux_lemma => kernel_rfl) ?_
  refine WK.run 1 [0, 3, 4] [.code (cd Try.prog 143 [2, 0]), .code (cd Try.prog 143 [3])] [(0, .pointer (some ⟨bp, 0, none⟩)), (3, .pointer (some ⟨b1, 0, none⟩)), (4, .pointer (some ⟨b3, 0, none⟩))] (by as_aux_lemma => kernel_rfl) ?_
  refine WK.reg1 (l := sq 0 6) (by as_aux_lemma => kernel_rfl) (by as_aux_lemma => kernel_rfl) ?_
  refine RW.runP 2 [0, 3, 4, 10, 11] (sq 2 6) [(0, .pointer (some ⟨bp, 0, none⟩)), (3, .pointer (some ⟨b1, 0, none⟩)), (4, .pointer (some ⟨b3, 0, none⟩)), (10, .pointer (some ⟨bp, 0, none⟩)), (11, .pointer (some ⟨b1, 1, none⟩))] (by as_aux_lemma => kernel_rfl) (by as_aux_lemma => kernel_rfl) ?_
  refine RW.load (κ := .seq) (d := some 12) (r := (sq 3 6)) (T := 3) (b := b1) (o' := 1) (k := 1) (v := .int .i64 D.index) (by as_aux_lemma => kernel_rfl) (H.cells 2 rfl) rfl (by as_aux_lemma => kernel_rfl) ?_
  refine RW.callS (d := some 13) (r := (sq 4 6)) (g := 111) (args := #[.pointer (some ⟨bp, 0, none⟩), .int .i64 D.index]) (by as_aux_lemma => kernel_rfl) (int_spec (x := D.index) (by omega) ((H.lend (M1 := [(bp, .cells #[.slice a7 ((xs ++ num D.version.toNat).length) c8, .int .i64 0, .bool true, .bool false] 183 (0, 0))]) (W1 := [⟨Shape.bv .u8 8, 5, .slice a7 ((xs ++ num D.version.toNat).length) c8, (xs ++ num D.version.toNat)⟩])).pick [] rfl) (by first | omega | (simp only [List.length_append, List.length_nil]; omega))) ?_
  rintro _ w11 ⟨a13, c14, rfl, H'⟩
  have H := H.back (M1 := [(bp, .cells #[.slice a7 ((xs ++ num D.version.toNat).length) c8, .int .i64 0, .bool true, .bool false] 183 (0, 0))]) (W1 := [⟨Shape.bv .u8 8, 5, .slice a7 ((xs ++ num D.version.toNat).length) c8, (xs ++ num D.version.toNat)⟩]) H'
  have H : Hp w S O [(bp, .cells #[.slice a13 (((xs ++ num D.version.toNat) ++ intE D.index).length) c14, .int .i64 0, .bool true, .bool false] 183 (0, 0)), (b3, .cells #[.int .u64 0, .int .i64 0, .int .u64 0] 50 (0, 0)), (b1, .cells #[.int .u64 D.version, .int .i64 D.index, .int .u64 D.epoch] 50 (0, 0))] [⟨Shape.bv .u8 8, 5, .slice a13 (((xs ++ num D.version.toNat) ++ intE D.index).length) c14, ((xs ++ num D.version.toNat) ++ intE D.index)⟩] [] _ := H
  refine RW.runP 1 [0, 3, 4, 13, 14] (sq 5 6) [(0, .pointer (some ⟨bp, 0, none⟩)), (3, .pointer (some ⟨b1, 0, none⟩)), (4, .pointer (some ⟨b3, 0, none⟩)), (13, .int .i64 D.index), (14, .pointer (some ⟨b1, 1, none⟩))] (by as_aux_lemma => kernel_rfl) (by as_aux_lemma => kernel_rfl) ?_
  refine RW.store (d := none) (r := (sq 6 6)) (T := 3) (b := b1) (k := 1) (v := .int .i64 D.index) (c' := #[.int .u64 D.version, .int .i64 D.index, .int .u64 D.epoch]) (M' := [(bp, .cells #[.slice a13 (((xs ++ num D.version.toNat) ++ intE D.index).length) c14, .int .i64 0, .bool true, .bool false] 183 (0, 0)), (b3, .cells #[.int .u64 0, .int .i64 0, .int .u64 0] 50 (0, 0)), (b1, .cells #[.int .u64 D.version, .int .i64 D.index, .int .u64 D.epoch] 50 (0, 0))]) (by as_aux_lemma => kernel_rfl) H 2 rfl (by as_aux_lemma => kernel_rfl) (by as_aux_lemma => kernel_rfl) ?_
  intro w16 H
  refine RW.fin 0 [0, 3, 4] [(0, .pointer (some ⟨bp, 0, none⟩)), (3, .pointer (some ⟨b1, 0, none⟩)), (4, .pointer (some ⟨b3, 0, none⟩))] (by as_aux_lemma => kernel_rfl) ?_
  refine WK.run 1 [0, 3, 4] [.code (cd Try.prog 143 [3, 0]), .code (cd Try.prog 143 [4])] [(0, .pointer (some ⟨bp, 0, none⟩)), (3, .pointer (some ⟨b1, 0, none⟩)), (4, .pointer (some ⟨b3, 0, none⟩))] (by as_aux_lemma => kernel_rfl) ?_
  refine WK.reg1 (l := sq 0 6) (by as_aux_lemma => kernel_rfl) (by as_aux_lemma => kernel_rfl) ?_
  refine RW.runP 2 [3, 4, 15, 16] (sq 2 6) [(3, .pointer (some ⟨b1, 0, none⟩)), (4, .pointer (some ⟨b3, 0, none⟩)), (15, .pointer (some ⟨bp, 0, none⟩)), (16, .pointer (some ⟨b1, 2, none⟩))] (by as_aux_lemma => kernel_rfl) (by as_aux_lemma => kernel_rfl) ?_
  refine RW.load (κ := .seq) (d := some 17) (r := (sq 3 6)) (T := 22) (b := b1) (o' := 2) (k := 2) (v := .int .u64 D.epoch) (by as_aux_lemma => kernel_rfl) (H.cells 2 rfl) rfl (by as_aux_lemma => kernel_rfl) ?_
  refine RW.callS (d := some 18) (r := (sq 4 6)) (g := 112) (args := #[.pointer (some ⟨bp, 0, none⟩), .int .u64 D.epoch]) (by as_aux_lemma => kernel_rfl) (u64_spec (x := D.epoch) (by omega) ((H.lend (M1 := [(bp, .cells #[.slice a13 (((xs ++ num D.version.toNat) ++ intE D.index).length) c14, .int .i64 0, .bool true, .bool false] 183 (0, 0))]) (W1 := [⟨Shape.bv .u8 8, 5, .slice a13 (((xs ++ num D.version.toNat) ++ intE D.index).length) c14, ((xs ++ num D.version.toNat) ++ intE D.index)⟩])).pick [] rfl) (by first | omega | (simp only [List.length_append, List.length_nil]; omega))) ?_
  rintro _ w17 ⟨a19, c20, rfl, H'⟩
  have H := H.back (M1 := [(bp, .cells #[.slice a13 (((xs ++ num D.version.toNat) ++ intE D.index).length) c14, .int .i64 0, .bool true, .bool false] 183 (0, 0))]) (W1 := [⟨Shape.bv .u8 8, 5, .slice a13 (((xs ++ num D.version.toNat) ++ intE D.index).length) c14, ((xs ++ num D.version.toNat) ++ intE D.index)⟩]) H'
  have H : Hp w S O [(bp, .cells #[.slice a19 ((((xs ++ num D.version.toNat) ++ intE D.index) ++ num D.epoch.toNat).length) c20, .int .i64 0, .bool true, .bool false] 183 (0, 0)), (b3, .cells #[.int .u64 0, .int .i64 0, .int .u64 0] 50 (0, 0)), (b1, .cells #[.int .u64 D.version, .int .i64 D.index, .int .u64 D.epoch] 50 (0, 0))] [⟨Shape.bv .u8 8, 5, .slice a19 ((((xs ++ num D.version.toNat) ++ intE D.index) ++ num D.epoch.toNat).length) c20, (((xs ++ num D.version.toNat) ++ intE D.index) ++ num D.epoch.toNat)⟩] [] _ := H
  refine RW.runP 1 [3, 4, 18, 19] (sq 5 6) [(3, .pointer (some ⟨b1, 0, none⟩)), (4, .pointer (some ⟨b3, 0, none⟩)), (18, .int .u64 D.epoch), (19, .pointer (some ⟨b1, 2, none⟩))] (by as_aux_lemma => kernel_rfl) (by as_aux_lemma => kernel_rfl) ?_
  refine RW.store (d := none) (r := (sq 6 6)) (T := 22) (b := b1) (k := 2) (v := .int .u64 D.epoch) (c' := #[.int .u64 D.version, .int .i64 D.index, .int .u64 D.epoch]) (M' := [(bp, .cells #[.slice a19 ((((xs ++ num D.version.toNat) ++ intE D.index) ++ num D.epoch.toNat).length) c20, .int .i64 0, .bool true, .bool false] 183 (0, 0)), (b3, .cells #[.int .u64 0, .int .i64 0, .int .u64 0] 50 (0, 0)), (b1, .cells #[.int .u64 D.version, .int .i64 D.index, .int .u64 D.epoch] 50 (0, 0))]) (by as_aux_lemma => kernel_rfl) H 2 rfl (by as_aux_lemma => kernel_rfl) (by as_aux_lemma => kernel_rfl) ?_
  intro w22 H
  refine RW.fin 0 [3, 4] [(3, .pointer (some ⟨b1, 0, none⟩)), (4, .pointer (some ⟨b3, 0, none⟩))] (by as_aux_lemma => kernel_rfl) ?_
  refine WK.run 1 [3, 4] [.code (cd Try.prog 143 [4, 0]), .code (cd Try.prog 143 [5])] [(3, .pointer (some ⟨b1, 0, none⟩)), (4, .pointer (some ⟨b3, 0, none⟩))] (by as_aux_lemma => kernel_rfl) ?_
  refine WK.reg1 (l := sq 0 2) (by as_aux_lemma => kernel_rfl) (by as_aux_lemma => kernel_rfl) ?_
  refine RW.load (κ := .seq) (d := some 20) (r := (sq 1 2)) (T := 50) (b := b1) (o' := 0) (k := 0) (v := .agg #[.int .u64 D.version, .int .i64 D.index, .int .u64 D.epoch]) (by as_aux_lemma => kernel_rfl) (H.cells 2 rfl) rfl (by as_aux_lemma => kernel_rfl) ?_
  refine RW.store (d := none) (r := (sq 2 2)) (T := 50) (b := b3) (k := 0) (v := .agg #[.int .u64 D.version, .int .i64 D.index, .int .u64 D.epoch]) (c' := #[.int .u64 D.version, .int .i64 D.index, .int .u64 D.epoch]) (M' := [(bp, .cells #[.slice a19 ((((xs ++ num D.version.toNat) ++ intE D.index) ++ num D.epoch.toNat).length) c20, .int .i64 0, .bool true, .bool false] 183 (0, 0)), (b3, .cells #[.int .u64 D.version, .int .i64 D.index, .int .u64 D.epoch] 50 (0, 0)), (b1, .cells #[.int .u64 D.version, .int .i64 D.index, .int .u64 D.epoch] 50 (0, 0))]) (by as_aux_lemma => kernel_rfl) H 1 rfl (by as_aux_lemma => kernel_rfl) (by as_aux_lemma => kernel_rfl) ?_
  intro w23 H
  refine RW.fin 0 [4] [(4, .pointer (some ⟨b3, 0, none⟩))] (by as_aux_lemma => kernel_rfl) ?_
  refine WK.retBy (v := .agg #[.int .u64 D.version, .int .i64 D.index, .int .u64 D.epoch]) Try.func143 (by as_aux_lemma => kernel_rfl) (RV.res1 (x := .cell 4 50) (by as_aux_lemma => kernel_rfl) (RV.cell (k := 0) (by as_aux_lemma => kernel_rfl) (H.cells 1 rfl) rfl (by as_aux_lemma => kernel_rfl))) ?_
  have hcf : (((xs ++ num D.version.toNat) ++ intE D.index) ++ num D.epoch.toNat) = xs ++ idE D := by simp [idE]
  rw [hcf] at H
  have H := H.drop (M' := [(bp, .cells #[.slice a19 ((xs ++ idE D).length) c20, .int .i64 0, .bool true, .bool false] 183 (0, 0))]) (W' := [⟨Shape.bv .u8 8, 5, .slice a19 ((xs ++ idE D).length) c20, xs ++ idE D⟩]) (by repeat (first | exact List.Sublist.refl _ | apply List.Sublist.cons_cons | apply List.Sublist.cons)) (by repeat (first | exact List.Sublist.refl _ | apply List.Sublist.cons_cons | apply List.Sublist.cons))
  exact ⟨_, rfl, _, _, by first | rfl | trivial, H.pick [] rfl⟩

theorem phdr_spec {S : Nat → Prop} {w : World} {O : List Nat} {bp : Nat} {xs : List (BitVec 8)} {a : Option Addr} {c : Nat} {D : Hdr} (hD : HdrOk D) (H0 : Hp w S O [(bp, .cells #[.slice a xs.length c, .int .i64 0, .bool true, .bool false] 183 (0, 0))] [⟨Shape.bv .u8 8, 5, .slice a xs.length c, xs⟩] [] w) (hby : xs.length + 70 ≤ 1099511627776) :
    Calls Try.prog 116 #[.pointer (some ⟨bp, 0, none⟩), .agg (hdrV D).toArray] w (Ret fun v w' => ∃ (a' : Option Addr) (c' : Nat), (v = .agg (hdrV D).toArray) ∧ Hp w S O [(bp, .cells #[.slice a' ((xs ++ hdrE D).length) c', .int .i64 0, .bool true, .bool false] 183 (0, 0))] [⟨Shape.bv .u8 8, 5, .slice a' ((xs ++ hdrE D).length) c', (xs ++ hdrE D)⟩] [] w') := by
  have hD0 := hD
  obtain ⟨hd1, hd2, hd3, hd4⟩ := hD0
  have hti := idE_len hd1
  have ht0 : (intE D.kk).length ≤ 10 := intE_ten hd2
  have ht1 : (intE D.nn).length ≤ 10 := intE_ten hd3
  have ht2 : (intE D.size).length ≤ 10 := intE_ten hd4
  have ht3 : (num D.sum.toNat).length ≤ 10 := num_ten (by have := D.sum.isLt; omega)
  refine WK.calls1 (fn := Try.f116) (n := 31) (σ := [(0, .pointer (some ⟨bp, 0, none⟩)), (1, .agg (hdrV D).toArray)]) Try.func116 rfl (by as_aux_lemma => kernel_rfl) (by as_aux_lemma => kernel_rfl) (by as_aux_lemma => kernel_rfl) ?_
  have H := H0
  refine WK.run 1 [0, 1] [.code (cd Try.prog 116 [0]), .code (cd Try.prog 116 [1])] [(0, .pointer (some ⟨bp, 0, none⟩)), (1, .agg (hdrV D).toArray)] (by as_aux_lemma => kernel_rfl) ?_
  refine WK.reg1 (l := sq 0 2) (by as_aux_lemma => kernel_rfl) (by as_aux_lemma => kernel_rfl) ?_
  refine RW.new (κ := .seq) (d := some 3) (r := (sq 1 2)) (o := .cells (hdrV D).toArray 53 (0, 0)) (v := fun b => .pointer (some ⟨b, 0, none⟩)) (fun b => by as_aux_lemma => kernel_rfl) (nofun) H ?_
  intro b1 w2 H
  refine RW.new (κ := .seq) (d := some 4) (r := (sq 2 2)) (o := .cells #[.int .u64 0, .int .i64 0, .int .u64 0, .int .i64 0, .int .i64 0, .int .i64 0, .int .u32 0] 53 (0, 0)) (v := fun b => .pointer (some ⟨b, 0, none⟩)) (fun b => by as_aux_lemma => kernel_rfl) (nofun) H ?_
  intro b3 w4 H
  refine RW.fin 0 [0, 3, 4] [(0, .pointer (some ⟨bp, 0, none⟩)), (3, .pointer (some ⟨b1, 0, none⟩)), (4, .pointer (some ⟨b3, 0, none⟩))] (by as_aux_lemma => kernel_rfl) ?_
  refine WK.run 1 [0, 3, 4] [.code (cd Try.prog 116 [1, 0]), .code (cd Try.prog 116 [2])] [(0, .pointer (some ⟨bp, 0, none⟩)), (3, .pointer (some ⟨b1, 0, none⟩)), (4, .pointer (some ⟨b3, 0, none⟩))] (by as_aux_lemma => kernel_rfl) ?_
  refine WK.reg1 (l := sq 0 6) (by as_aux_lemma => kernel_rfl) (by as_aux_lemma => kernel_rfl) ?_
  refine RW.runP 2 [0, 3, 4, 5, 6] (sq 2 6) [(0, .pointer (some ⟨bp, 0, none⟩)), (3, .pointer (some ⟨b1, 0, none⟩)), (4, .pointer (some ⟨b3, 0, none⟩)), (5, .pointer (some ⟨bp, 0, none⟩)), (6, .pointer (some ⟨b1, 0, none⟩))] (by as_aux_lemma => kernel_rfl) (by as_aux_lemma => kernel_rfl) ?_
  refine RW.load (κ := .seq) (d := some 7) (r := (sq 3 6)) (T := 50) (b := b1) (o' := 0) (k := 0) (v := .agg #[.int .u64 D.id.version, .int .i64 D.id.index, .int .u64 D.id.epoch]) (by as_aux_lemma => kernel_rfl) (H.cells 1 rfl) rfl (by as_aux_lemma => kernel_rfl) ?_
  have H := H.perms (M' := [(bp, .cells #[.slice a xs.length c, .int .i64 0, .bool true, .bool false] 183 (0, 0)), (b3, .cells #[.int .u64 0, .int .i64 0, .int .u64 0, .int .i64 0, .int .i64 0, .int .i64 0, .int .u32 0] 53 (0, 0)), (b1, .cells (hdrV D).toArray 53 (0, 0))]) (W' := [⟨Shape.bv .u8 8, 5, .slice a xs.length c, xs⟩]) (List.perm_middle (l₁ := ([(b3, .cells #[.int .u64 0, .int .i64 0, .int .u64 0, .int .i64 0, .int .i64 0, .int .i64 0, .int .u32 0] 53 (0, 0)), (b1, .cells (hdrV D).toArray 53 (0, 0))] : Heap))).symm (List.Perm.refl _)
  refine RW.callS (d := some 8) (r := (sq 4 6)) (g := 143) (args := #[.pointer (some ⟨bp, 0, none⟩), .agg #[.int .u64 D.id.version, .int .i64 D.id.index, .int .u64 D.id.epoch]]) (by as_aux_lemma => kernel_rfl) (pid_spec (D := D.id) (by first | assumption | exact hD.1) ((H.lend (M1 := [(bp, .cells #[.slice a xs.length c, .int .i64 0, .bool true, .bool false] 183 (0, 0))]) (W1 := [⟨Shape.bv .u8 8, 5, .slice a xs.length c, xs⟩])).pick [] rfl) (by first | omega | (simp only [List.length_append, List.length_nil]; omega))) ?_
  rintro _ w5 ⟨a7, c8, rfl, H'⟩
  have H := H.back (M1 := [(bp, .cells #[.slice a xs.length c, .int .i64 0, .bool true, .bool false] 183 (0, 0))]) (W1 := [⟨Shape.bv .u8 8, 5, .slice a xs.length c, xs⟩]) H'
  have H : Hp w S O [(bp, .cells #[.slice a7 ((xs ++ idE D.id).length) c8, .int .i64 0, .bool true, .bool false] 183 (0, 0)), (b3, .cells #[.int .u64 0, .int .i64 0, .int .u64 0, .int .i64 0, .int .i64 0, .int .i64 0, .int .u32 0] 53 (0, 0)), (b1, .cells (hdrV D).toArray 53 (0, 0))] [⟨Shape.bv .u8 8, 5, .slice a7 ((xs ++ idE D.id).length) c8, (xs ++ idE D.id)⟩] [] _ := H
  refine RW.runP 1 [0, 3, 4, 8, 9] (sq 5 6) [(0, .pointer (some ⟨bp, 0, none⟩)), (3, .pointer (some ⟨b1, 0, none⟩)), (4, .pointer (some ⟨b3, 0, none⟩)), (8, .agg #[.int .u64 D.id.version, .int .i64 D.id.index, .int .u64 D.id.epoch]), (9, .pointer (some ⟨b1, 0, none⟩))] (by as_aux_lemma => kernel_rfl) (by as_aux_lemma => kernel_rfl) ?_
  refine RW.store (d := none) (r := (sq 6 6)) (T := 50) (b := b1) (k := 0) (v := .agg #[.int .u64 D.id.version, .int .i64 D.id.index, .int .u64 D.id.epoch]) (c' := (hdrV D).toArray) (M' := [(bp, .cells #[.slice a7 ((xs ++ idE D.id).length) c8, .int .i64 0, .bool true, .bool false] 183 (0, 0)), (b3, .cells #[.int .u64 0, .int .i64 0, .int .u64 0, .int .i64 0, .int .i64 0, .int .i64 0, .int .u32 0] 53 (0, 0)), (b1, .cells (hdrV D).toArray 53 (0, 0))]) (by as_aux_lemma => kernel_rfl) H 2 rfl (by as_aux_lemma => kernel_rfl) (by as_aux_lemma => kernel_rfl) ?_
  intro w10 H
  refine RW.fin 0 [0, 3, 4] [(0, .pointer (some ⟨bp, 0, none⟩)), (3, .pointer (some ⟨b1, 0, none⟩)), (4, .pointer (some ⟨b3, 0, none⟩))] (by as_aux_lemma => kernel_rfl) ?_
  refine WK.run 1 [0, 3, 4] [.code (cd Try.prog 116 [2, 0]), .code (cd Try.prog 116 [3])] [(0, .pointer (some ⟨bp, 0, none⟩)), (3, .pointer (some ⟨b1, 0, none⟩)), (4, .pointer (some ⟨b3, 0, none⟩))] (by as_aux_lemma => kernel_rfl) ?_
  refine WK.reg1 (l := sq 0 6) (by as_aux_lemma => kernel_rfl) (by as_aux_lemma => kernel_rfl) ?_
  refine RW.runP 2 [0, 3, 4, 10, 11] (sq 2 6) [(0, .pointer (some ⟨bp, 0, none⟩)), (3, .pointer (some ⟨b1, 0, none⟩)), (4, .pointer (some ⟨b3, 0, none⟩)), (10, .pointer (some ⟨bp, 0, none⟩)), (11, .pointer (some ⟨b1, 3, none⟩))] (by as_aux_lemma => kernel_rfl) (by as_aux_lemma => kernel_rfl) ?_
  refine RW.load (κ := .seq) (d := some 12) (r := (sq 3 6)) (T := 3) (b := b1) (o' := 3) (k := 3) (v := .int .i64 D.kk) (by as_aux_lemma => kernel_rfl) (H.cells 2 rfl) rfl (by as_aux_lemma => kernel_rfl) ?_
  refine RW.callS (d := some 13) (r := (sq 4 6)) (g := 111) (args := #[.pointer (some ⟨bp, 0, none⟩), .int .i64 D.kk]) (by as_aux_lemma => kernel_rfl) (int_spec (x := D.kk) (by omega) ((H.lend (M1 := [(bp, .cells #[.slice a7 ((xs ++ idE D.id).length) c8, .int .i64 0, .bool true, .bool false] 183 (0, 0))]) (W1 := [⟨Shape.bv .u8 8, 5, .slice a7 ((xs ++ idE D.id).length) c8, (xs ++ idE D.id)⟩])).pick [] rfl) (by first | omega | (simp only [List.length_append, List.length_nil]; omega))) ?_
  rintro _ w11 ⟨a13, c14, rfl, H'⟩
  have H := H.back (M1 := [(bp, .cells #[.slice a7 ((xs ++ idE D.id).length) c8, .int .i64 0, .bool true, .bool false] 183 (0, 0))]) (W1 := [⟨Shape.bv .u8 8, 5, .slice a7 ((xs ++ idE D.id).length) c8, (xs ++ idE D.id)⟩]) H'
  have H : Hp w S O [(bp, .cells #[.slice a13 (((xs ++ idE D.id) ++ intE D.kk).length) c14, .int .i64 0, .bool true, .bool false] 183 (0, 0)), (b3, .cells #[.int .u64 0, .int .i64 0, .int .u64 0, .int .i64 0, .int .i64 0, .int .i64 0, .int .u32 0] 53 (0, 0)), (b1, .cells (hdrV D).toArray 53 (0, 0))] [⟨Shape.bv .u8 8, 5, .slice a13 (((xs ++ idE D.id) ++ intE D.kk).length) c14, ((xs ++ idE D.id) ++ intE D.kk)⟩] [] _ := H
  refine RW.runP 1 [0, 3, 4, 13, 14] (sq 5 6) [(0, .pointer (some ⟨bp, 0, none⟩)), (3, .pointer (some ⟨b1, 0, none⟩)), (4, .pointer (some ⟨b3, 0, none⟩)), (13, .int .i64 D.kk), (14, .pointer (some ⟨b1, 3, none⟩))] (by as_aux_lemma => kernel_rfl) (by as_aux_lemma => kernel_rfl) ?_
  refine RW.store (d := none) (r := (sq 6 6)) (T := 3) (b := b1) (k := 3) (v := .int .i64 D.kk) (c' := (hdrV D).toArray) (M' := [(bp, .cells #[.slice a13 (((xs ++ idE D.id) ++ intE D.kk).length) c14, .int .i64 0, .bool true, .bool false] 183 (0, 0)), (b3, .cells #[.int .u64 0, .int .i64 0, .int .u64 0, .int .i64 0, .int .i64 0, .int .i64 0, .int .u32 0] 53 (0, 0)), (b1, .cells (hdrV D).toArray 53 (0, 0))]) (by as_aux_lemma => kernel_rfl) H 2 rfl (by as_aux_lemma => kernel_rfl) (by as_aux_lemma => kernel_rfl) ?_
  intro w16 H
  refine RW.fin 0 [0, 3, 4] [(0, .pointer (some ⟨bp, 0, none⟩)), (3, .pointer (some ⟨b1, 0, none⟩)), (4, .pointer (some ⟨b3, 0, none⟩))] (by as_aux_lemma => kernel_rfl) ?_
  refine WK.run 1 [0, 3, 4] [.code (cd Try.prog 116 [3, 0]), .code (cd Try.prog 116 [4])] [(0, .pointer (some ⟨bp, 0, none⟩)), (3, .pointer (some ⟨b1, 0, none⟩)), (4, .pointer (some ⟨b3, 0, none⟩))] (by as_aux_lemma => kernel_rfl) ?_
  refine WK.reg1 (l := sq 0 6) (by as_aux_lemma => kernel_rfl) (by as_aux_lemma => kernel_rfl) ?_
  refine RW.runP 2 [0, 3, 4, 15, 16] (sq 2 6) [(0, .pointer (some ⟨bp, 0, none⟩)), (3, .pointer (some ⟨b1, 0, none⟩)), (4, .pointer (some ⟨b3, 0, none⟩)), (15, .pointer (some ⟨bp, 0, none⟩)), (16, .pointer (some ⟨b1, 4, none⟩))] (by as_aux_lemma => kernel_rfl) (by as_aux_lemma => kernel_rfl) ?_
  refine RW.load (κ := .seq) (d := some 17) (r := (sq 3 6)) (T := 3) (b := b1) (o' := 4) (k := 4) (v := .int .i64 D.nn) (by as_aux_lemma => kernel_rfl) (H.cells 2 rfl) rfl (by as_aux_lemma => kernel_rfl) ?_
  refine RW.callS (d := some 18) (r := (sq 4 6)) (g := 111) (args := #[.pointer (some ⟨bp, 0, none⟩), .int .i64 D.nn]) (by as_aux_lemma => kernel_rfl) (int_spec (x := D.nn) (by omega) ((H.lend (M1 := [(bp, .cells #[.slice a13 (((xs ++ idE D.id) ++ intE D.kk).length) c14, .int .i64 0, .bool true, .bool false] 183 (0, 0))]) (W1 := [⟨Shape.bv .u8 8, 5, .slice a13 (((xs ++ idE D.id) ++ intE D.kk).length) c14, ((xs ++ idE D.id) ++ intE D.kk)⟩])).pick [] rfl) (by first | omega | (simp only [List.length_append, List.length_nil]; omega))) ?_
  rintro _ w17 ⟨a19, c20, rfl, H'⟩
  have H := H.back (M1 := [(bp, .cells #[.slice a13 (((xs ++ idE D.id) ++ intE D.kk).length) c14, .int .i64 0, .bool true, .bool false] 183 (0, 0))]) (W1 := [⟨Shape.bv .u8 8, 5, .slice a13 (((xs ++ idE D.id) ++ intE D.kk).length) c14, ((xs ++ idE D.id) ++ intE D.kk)⟩]) H'
  have H : Hp w S O [(bp, .cells #[.slice a19 ((((xs ++ idE D.id) ++ intE D.kk) ++ intE D.nn).length) c20, .int .i64 0, .bool true, .bool false] 183 (0, 0)), (b3, .cells #[.int .u64 0, .int .i64 0, .int .u64 0, .int .i64 0, .int .i64 0, .int .i64 0, .int .u32 0] 53 (0, 0)), (b1, .cells (hdrV D).toArray 53 (0, 0))] [⟨Shape.bv .u8 8, 5, .slice a19 ((((xs ++ idE D.id) ++ intE D.kk) ++ intE D.nn).length) c20, (((xs ++ idE D.id) ++ intE D.kk) ++ intE D.nn)⟩] [] _ := H
  refine RW.runP 1 [0, 3, 4, 18, 19] (sq 5 6) [(0, .pointer (some ⟨bp, 0, none⟩)), (3, .pointer (some ⟨b1, 0, none⟩)), (4, .pointer (some ⟨b3, 0, none⟩)), (18, .int .i64 D.nn), (19, .pointer (some ⟨b1, 4, none⟩))] (by as_aux_lemma => kernel_rfl) (by as_aux_lemma => kernel_rfl) ?_
  refine RW.store (d := none) (r := (sq 6 6)) (T := 3) (b := b1) (k := 4) (v := .int .i64 D.nn) (c' := (hdrV D).toArray) (M' := [(bp, .cells #[.slice a19 ((((xs ++ idE D.id) ++ intE D.kk) ++ intE D.nn).length) c20, .int .i64 0, .bool true, .bool false] 183 (0, 0)), (b3, .cells #[.int .u64 0, .int .i64 0, .int .u64 0, .int .i64 0, .int .i64 0, .int .i64 0, .int .u32 0] 53 (0, 0)), (b1, .cells (hdrV D).toArray 53 (0, 0))]) (by as_aux_lemma => kernel_rfl) H 2 rfl (by as_aux_lemma => kernel_rfl) (by as_aux_lemma => kernel_rfl) ?_
  intro w22 H
  refine RW.fin 0 [0, 3, 4] [(0, .pointer (some ⟨bp, 0, none⟩)), (3, .pointer (some ⟨b1, 0, none⟩)), (4, .pointer (some ⟨b3, 0, none⟩))] (by as_aux_lemma => kernel_rfl) ?_
  refine WK.run 1 [0, 3, 4] [.code (cd Try.prog 116 [4, 0]), .code (cd Try.prog 116 [5])] [(0, .pointer (some ⟨bp, 0, none⟩)), (3, .pointer (some ⟨b1, 0, none⟩)), (4, .pointer (some ⟨b3, 0, none⟩))] (by as_aux_lemma => kernel_rfl) ?_
  refine WK.reg1 (l := sq 0 6) (by as_aux_lemma => kernel_rfl) (by as_aux_lemma => kernel_rfl) ?_
  refine RW.runP 2 [0, 3, 4, 20, 21] (sq 2 6) [(0, .pointer (some ⟨bp, 0, none⟩)), (3, .pointer (some ⟨b1, 0, none⟩)), (4, .pointer (some ⟨b3, 0, none⟩)), (20, .pointer (some ⟨bp, 0, none⟩)), (21, .pointer (some ⟨b1, 5, none⟩))] (by as_aux_lemma => kernel_rfl) (by as_aux_lemma => kernel_rfl) ?_
  refine RW.load (κ := .seq) (d := some 22) (r := (sq 3 6)) (T := 3) (b := b1) (o' := 5) (k := 5) (v := .int .i64 D.size) (by as_aux_lemma => kernel_rfl) (H.cells 2 rfl) rfl (by as_aux_lemma => kernel_rfl) ?_
  refine RW.callS (d := some 23) (r := (sq 4 6)) (g := 111) (args := #[.pointer (some ⟨bp, 0, none⟩), .int .i64 D.size]) (by as_aux_lemma => kernel_rfl) (int_spec (x := D.size) (by omega) ((H.lend (M1 := [(bp, .cells #[.slice a19 ((((xs ++ idE D.id) ++ intE D.kk) ++ intE D.nn).length) c20, .int .i64 0, .bool true, .bool false] 183 (0, 0))]) (W1 := [⟨Shape.bv .u8 8, 5, .slice a19 ((((xs ++ idE D.id) ++ intE D.kk) ++ intE D.nn).length) c20, (((xs ++ idE D.id) ++ intE D.kk) ++ intE D.nn)⟩])).pick [] rfl) (by first | omega | (simp only [List.length_append, List.length_nil]; omega))) ?_
  rintro _ w23 ⟨a25, c26, rfl, H'⟩
  have H := H.back (M1 := [(bp, .cells #[.slice a19 ((((xs ++ idE D.id) ++ intE D.kk) ++ intE D.nn).length) c20, .int .i64 0, .bool true, .bool false] 183 (0, 0))]) (W1 := [⟨Shape.bv .u8 8, 5, .slice a19 ((((xs ++ idE D.id) ++ intE D.kk) ++ intE D.nn).length) c20, (((xs ++ idE D.id) ++ intE D.kk) ++ intE D.nn)⟩]) H'
  have H : Hp w S O [(bp, .cells #[.slice a25 (((((xs ++ idE D.id) ++ intE D.kk) ++ intE D.nn) ++ intE D.size).length) c26, .int .i64 0, .bool true, .bool false] 183 (0, 0)), (b3, .cells #[.int .u64 0, .int .i64 0, .int .u64 0, .int .i64 0, .int .i64 0, .int .i64 0, .int .u32 0] 53 (0, 0)), (b1, .cells (hdrV D).toArray 53 (0, 0))] [⟨Shape.bv .u8 8, 5, .slice a25 (((((xs ++ idE D.id) ++ intE D.kk) ++ intE D.nn) ++ intE D.size).length) c26, ((((xs ++ idE D.id) ++ intE D.kk) ++ intE D.nn) ++ intE D.size)⟩] [] _ := H
  refine RW.runP 1 [0, 3, 4, 23, 24] (sq 5 6) [(0, .pointer (some ⟨bp, 0, none⟩)), (3, .pointer (some ⟨b1, 0, none⟩)), (4, .pointer (some ⟨b3, 0, none⟩)), (23, .int .i64 D.size), (24, .pointer (some ⟨b1, 5, none⟩))] (by as_aux_lemma => kernel_rfl) (by as_aux_lemma => kernel_rfl) ?_
  refine RW.store (d := none) (r := (sq 6 6)) (T := 3) (b := b1) (k := 5) (v := .int .i64 D.size) (c' := (hdrV D).toArray) (M' := [(bp, .cells #[.slice a25 (((((xs ++ idE D.id) ++ intE D.kk) ++ intE D.nn) ++ intE D.size).length) c26, .int .i64 0, .bool true, .bool false] 183 (0, 0)), (b3, .cells #[.int .u64 0, .int .i64 0, .int .u64 0, .int .i64 0, .int .i64 0, .int .i64 0, .int .u32 0] 53 (0, 0)), (b1, .cells (hdrV D).toArray 53 (0, 0))]) (by as_aux_lemma => kernel_rfl) H 2 rfl (by as_aux_lemma => kernel_rfl) (by as_aux_lemma => kernel_rfl) ?_
  intro w28 H
  refine RW.fin 0 [0, 3, 4] [(0, .pointer (some ⟨bp, 0, none⟩)), (3, .pointer (some ⟨b1, 0, none⟩)), (4, .pointer (some ⟨b3, 0, none⟩))] (by as_aux_lemma => kernel_rfl) ?_
  refine WK.run 1 [0, 3, 4] [.code (cd Try.prog 116 [5, 0]), .code (cd Try.prog 116 [6])] [(0, .pointer (some ⟨bp, 0, none⟩)), (3, .pointer (some ⟨b1, 0, none⟩)), (4, .pointer (some ⟨b3, 0, none⟩))] (by as_aux_lemma => kernel_rfl) ?_
  refine WK.reg1 (l := sq 0 6) (by as_aux_lemma => kernel_rfl) (by as_aux_lemma => kernel_rfl) ?_
  refine RW.runP 2 [3, 4, 25, 26] (sq 2 6) [(3, .pointer (some ⟨b1, 0, none⟩)), (4, .pointer (some ⟨b3, 0, none⟩)), (25, .pointer (some ⟨bp, 0, none⟩)), (26, .pointer (some ⟨b1, 6, none⟩))] (by as_aux_lemma => kernel_rfl) (by as_aux_lemma => kernel_rfl) ?_
  refine RW.load (κ := .seq) (d := some 27) (r := (sq 3 6)) (T := 51) (b := b1) (o' := 6) (k := 6) (v := .int .u32 ((D.sum.toNat : Nat) : Int)) (by as_aux_lemma => kernel_rfl) (H.cells 2 rfl) rfl (by as_aux_lemma => kernel_rfl) ?_
  refine RW.callS (d := some 28) (r := (sq 4 6)) (g := 144) (args := #[.pointer (some ⟨bp, 0, none⟩), .int .u32 ((D.sum.toNat : Nat) : Int)]) (by as_aux_lemma => kernel_rfl) (pu32_spec (x := D.sum) ((H.lend (M1 := [(bp, .cells #[.slice a25 (((((xs ++ idE D.id) ++ intE D.kk) ++ intE D.nn) ++ intE D.size).length) c26, .int .i64 0, .bool true, .bool false] 183 (0, 0))]) (W1 := [⟨Shape.bv .u8 8, 5, .slice a25 (((((xs ++ idE D.id) ++ intE D.kk) ++ intE D.nn) ++ intE D.size).length) c26, ((((xs ++ idE D.id) ++ intE D.kk) ++ intE D.nn) ++ intE D.size)⟩])).pick [] rfl) (by first | omega | (simp only [List.length_append, List.length_nil]; omega))) ?_
  rintro _ w29 ⟨a31, c32, rfl, H'⟩
  have H := H.back (M1 := [(bp, .cells #[.slice a25 (((((xs ++ idE D.id) ++ intE D.kk) ++ intE D.nn) ++ intE D.size).length) c26, .int .i64 0, .bool true, .bool false] 183 (0, 0))]) (W1 := [⟨Shape.bv .u8 8, 5, .slice a25 (((((xs ++ idE D.id) ++ intE D.kk) ++ intE D.nn) ++ intE D.size).length) c26, ((((xs ++ idE D.id) ++ intE D.kk) ++ intE D.nn) ++ intE D.size)⟩]) H'
  have H : Hp w S O [(bp, .cells #[.slice a31 ((((((xs ++ idE D.id) ++ intE D.kk) ++ intE D.nn) ++ intE D.size) ++ num D.sum.toNat).length) c32, .int .i64 0, .bool true, .bool false] 183 (0, 0)), (b3, .cells #[.int .u64 0, .int .i64 0, .int .u64 0, .int .i64 0, .int .i64 0, .int .i64 0, .int .u32 0] 53 (0, 0)), (b1, .cells (hdrV D).toArray 53 (0, 0))] [⟨Shape.bv .u8 8, 5, .slice a31 ((((((xs ++ idE D.id) ++ intE D.kk) ++ intE D.nn) ++ intE D.size) ++ num D.sum.toNat).length) c32, (((((xs ++ idE D.id) ++ intE D.kk) ++ intE D.nn) ++ intE D.size) ++ num D.sum.toNat)⟩] [] _ := H
  refine RW.runP 1 [3, 4, 28, 29] (sq 5 6) [(3, .pointer (some ⟨b1, 0, none⟩)), (4, .pointer (some ⟨b3, 0, none⟩)), (28, .int .u32 ((D.sum.toNat : Nat) : Int)), (29, .pointer (some ⟨b1, 6, none⟩))] (by as_aux_lemma => kernel_rfl) (by as_aux_lemma => kernel_rfl) ?_
  refine RW.store (d := none) (r := (sq 6 6)) (T := 51) (b := b1) (k := 6) (v := .int .u32 ((D.sum.toNat : Nat) : Int)) (c' := (hdrV D).toArray) (M' := [(bp, .cells #[.slice a31 ((((((xs ++ idE D.id) ++ intE D.kk) ++ intE D.nn) ++ intE D.size) ++ num D.sum.toNat).length) c32, .int .i64 0, .bool true, .bool false] 183 (0, 0)), (b3, .cells #[.int .u64 0, .int .i64 0, .int .u64 0, .int .i64 0, .int .i64 0, .int .i64 0, .int .u32 0] 53 (0, 0)), (b1, .cells (hdrV D).toArray 53 (0, 0))]) (by as_aux_lemma => kernel_rfl) H 2 rfl (by as_aux_lemma => kernel_rfl) (by as_aux_lemma => kernel_rfl) ?_
  intro w34 H
  refine RW.fin 0 [3, 4] [(3, .pointer (some ⟨b1, 0, none⟩)), (4, .pointer (some ⟨b3, 0, none⟩))] (by as_aux_lemma => kernel_rfl) ?_
  refine WK.run 1 [3, 4] [.code (cd Try.prog 116 [6, 0]), .code (cd Try.prog 116 [7])] [(3, .pointer (some ⟨b1, 0, none⟩)), (4, .pointer (some ⟨b3, 0, none⟩))] (by as_aux_lemma => kernel_rfl) ?_
  refine WK.reg1 (l := sq 0 2) (by as_aux_lemma => kernel_rfl) (by as_aux_lemma => kernel_rfl) ?_
  refine RW.load (κ := .seq) (d := some 30) (r := (sq 1 2)) (T := 53) (b := b1) (o' := 0) (k := 0) (v := .agg (hdrV D).toArray) (by as_aux_lemma => kernel_rfl) (H.cells 2 rfl) rfl (by as_aux_lemma => kernel_rfl) ?_
  refine RW.store (d := none) (r := (sq 2 2)) (T := 53) (b := b3) (k := 0) (v := .agg (hdrV D).toArray) (c' := (hdrV D).toArray) (M' := [(bp, .cells #[.slice a31 ((((((xs ++ idE D.id) ++ intE D.kk) ++ intE D.nn) ++ intE D.size) ++ num D.sum.toNat).length) c32, .int .i64 0, .bool true, .bool false] 183 (0, 0)), (b3, .cells (hdrV D).toArray 53 (0, 0)), (b1, .cells (hdrV D).toArray 53 (0, 0))]) (by as_aux_lemma => kernel_rfl) H 1 rfl (by as_aux_lemma => kernel_rfl) (by as_aux_lemma => kernel_rfl) ?_
  intro w35 H
  refine RW.fin 0 [4] [(4, .pointer (some ⟨b3, 0, none⟩))] (by as_aux_lemma => kernel_rfl) ?_
  refine WK.retBy (v := .agg (hdrV D).toArray) Try.func116 (by as_aux_lemma => kernel_rfl) (RV.res1 (x := .cell 4 53) (by as_aux_lemma => kernel_rfl) (RV.cell (k := 0) (by as_aux_lemma => kernel_rfl) (H.cells 1 rfl) rfl (by as_aux_lemma => kernel_rfl))) ?_
  have hcf : (((((xs ++ idE D.id) ++ intE D.kk) ++ intE D.nn) ++ intE D.size) ++ num D.sum.toNat) = xs ++ hdrE D := by simp [hdrE]
  rw [hcf] at H
  have H := H.drop (M' := [(bp, .cells #[.slice a31 ((xs ++ hdrE D).length) c32, .int .i64 0, .bool true, .bool false] 183 (0, 0))]) (W' := [⟨Shape.bv .u8 8, 5, .slice a31 ((xs ++ hdrE D).length) c32, xs ++ hdrE D⟩]) (by repeat (first | exact List.Sublist.refl _ | apply List.Sublist.cons_cons | apply List.Sublist.cons)) (by repeat (first | exact List.Sublist.refl _ | apply List.Sublist.cons_cons | apply List.Sublist.cons))
  exact ⟨_, rfl, _, _, by first | rfl | trivial, H.pick [] rfl⟩

def textE (s : ByteArray) : List (BitVec 8) := bytesE (bytesOf s)

theorem text_spec {S : Nat → Prop} {w : World} {O : List Nat} {bp : Nat} {xs : List (BitVec 8)} {a : Option Addr} {c : Nat} {s : ByteArray} (hs : s.size ≤ maxLen) (H0 : Hp w S O [(bp, .cells #[.slice a xs.length c, .int .i64 0, .bool true, .bool false] 183 (0, 0))] [⟨Shape.bv .u8 8, 5, .slice a xs.length c, xs⟩] [] w) (hby : xs.length + (s.size + 10) ≤ 1099511627776) :
    Calls Try.prog 118 #[.pointer (some ⟨bp, 0, none⟩), .string s] w (Ret fun v w' => ∃ (a' : Option Addr) (c' : Nat), (∃ t : ByteArray, v = .string t) ∧ Hp w S O [(bp, .cells #[.slice a' ((xs ++ textE s).length) c', .int .i64 0, .bool true, .bool false] 183 (0, 0))] [⟨Shape.bv .u8 8, 5, .slice a' ((xs ++ textE s).length) c', (xs ++ textE s)⟩] [] w') := by
  have hbl := bytesOf_len s
  refine WK.calls1 (fn := Try.f118) (n := 10) (σ := [(0, .pointer (some ⟨bp, 0, none⟩)), (1, .string s)]) Try.func118 rfl (by as_aux_lemma => kernel_rfl) (by as_aux_lemma => kernel_rfl) (by as_aux_lemma => kernel_rfl) ?_
  have H := H0
  refine WK.run 3 [0, 1] [.code (cd Try.prog 118 [1, 0]), .code (cd Try.prog 118 [2])] [(0, .pointer (some ⟨bp, 0, none⟩)), (1, .string s)] (by as_aux_lemma => kernel_rfl) ?_
  refine WK.reg1 (l := sq 0 6) (by as_aux_lemma => kernel_rfl) (by as_aux_lemma => kernel_rfl) ?_
  refine RW.runP 2 [5, 6] (sq 2 6) [(5, .pointer (some ⟨bp, 0, none⟩)), (6, .string s)] (by as_aux_lemma => kernel_rfl) (by as_aux_lemma => kernel_rfl) ?_
  refine RW.ofStr (κ := .seq) (d := some 7) (r := (sq 3 6)) (Ts := 9) (Td := 23) 5 (s := s) (by as_aux_lemma => kernel_rfl) (nofun) (by as_aux_lemma => kernel_rfl) hs H ?_
  intro a1 c2 w3 H
  have H : Hp w S O [(bp, .cells #[.slice a xs.length c, .int .i64 0, .bool true, .bool false] 183 (0, 0))] [⟨Shape.bv .u8 8, 5, .slice a xs.length c, xs⟩] [Rp (Shape.slice (Shape.bv .u8 8)) [.slice a1 ((bytesOf s).length) c2] (bytesOf s)] _ := H
  refine RW.callS (d := some 8) (r := (sq 4 6)) (g := 117) (args := #[.pointer (some ⟨bp, 0, none⟩), .slice a1 ((bytesOf s).length) c2]) (by as_aux_lemma => kernel_rfl) (bytes_spec (ys := (bytesOf s)) ((H.lend (M1 := [(bp, .cells #[.slice a xs.length c, .int .i64 0, .bool true, .bool false] 183 (0, 0))]) (W1 := [⟨Shape.bv .u8 8, 5, .slice a xs.length c, xs⟩])).pick [0] rfl) (by first | omega | (simp only [List.length_append, List.length_nil]; omega))) ?_
  rintro _ w4 ⟨a6, c7, rfl, H'⟩
  have H := H.back (M1 := [(bp, .cells #[.slice a xs.length c, .int .i64 0, .bool true, .bool false] 183 (0, 0))]) (W1 := [⟨Shape.bv .u8 8, 5, .slice a xs.length c, xs⟩]) H'
  have H : Hp w S O [(bp, .cells #[.slice a6 ((xs ++ bytesE (bytesOf s)).length) c7, .int .i64 0, .bool true, .bool false] 183 (0, 0))] [⟨Shape.bv .u8 8, 5, .slice a6 ((xs ++ bytesE (bytesOf s)).length) c7, (xs ++ bytesE (bytesOf s))⟩] [Rp (Shape.slice (Shape.bv .u8 8)) [.slice a1 ((bytesOf s).length) c2] (bytesOf s)] _ := H
  refine RW.toStr (κ := .seq) (d := some 9) (r := (sq 5 6)) (Ts := 23) (Td := 9) 5 (a := a1) (len := ((bytesOf s).length)) (cap := c2) (xs := bytesOf s) (by as_aux_lemma => kernel_rfl) (by as_aux_lemma => kernel_rfl) (H.rp 0 rfl) ?_
  refine RW.fin 1 [4] [(4, .string (strOf (bytesOf s)))] (by as_aux_lemma => kernel_rfl) ?_
  refine WK.ret (v := .string (strOf (bytesOf s))) Try.func118 (by as_aux_lemma => kernel_rfl) (by as_aux_lemma => kernel_rfl) ?_
  exact ⟨_, rfl, _, _, ⟨_, rfl⟩, H.pick [] rfl⟩


end Go.Proofs.Ytppcdmbkgficiaa
