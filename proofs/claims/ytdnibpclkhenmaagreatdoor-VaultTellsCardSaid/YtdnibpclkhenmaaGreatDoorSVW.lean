import Derived.Test.YtdnibpclkhenmaaGreatDoorSBxB
import Derived.Test.YtdnibpclkhenmaaGreatDoorSV1
import Derived.Test.YtdnibpclkhenmaaGreatDoorSJ1
namespace Go.Proofs.YtdnibpclkhenmaaGreatDoor
open Go.BX
theorem take_snocS {α : Type} {l : List α} {i : Nat} {x : α} (h : l[i]? = some x) : l.take i ++ [x] = l.take (i + 1) := by
 obtain ⟨hi, rfl⟩ := List.getElem?_eq_some_iff.1 h
 exact (List.take_succ_eq_append_getElem hi).symm
theorem between_spec {S : Nat → Prop} {w : World} (x l h : Int) :
 Calls Tryz.prog 87 #[.I x, .I l, .I h] w (Ret fun v w' => Ext w w' ∧ v = .bool (decide (l ≤ x ∧ x ≤ h))) := by
 refine uS1 Tryz.func87 ?_
 have H := Hp.startF (w := w) (S := S) (G := []) .nil
 refine uR 3 [.c [1, 0], .c [2]] ?_
 refine qG (sq 0 9) ?_
 refine uP 4 ?_
 refine uD 10 ((x : Int) ≥ l) (fun a => ?_) (fun a => ?_)
 ·
  refine uF 5 ?_
  refine qT (.bool (decide ((x : Int) ≤ h))) Tryz.func87 ?_
  refine ⟨_, rfl, H.done, ?_⟩
  congr 1
  exact decide_eq_decide.2 (by omega)
 ·
  refine uF 5 ?_
  refine qT (.bool false) Tryz.func87 ?_
  refine ⟨_, rfl, H.done, ?_⟩
  congr 1
  exact (decide_eq_false (by omega)).symm
def lenOf (size k : Nat) : Nat := (size + k - 1) / k
theorem lenOf_int {size k : Nat} (_hs : 0 < k) : ((size : Int) + (k : Int) - 1) / (k : Int) = ((lenOf size k : Nat) : Int) := by
 unfold lenOf
 rw [Int.natCast_ediv]
 congr 1
 omega
theorem lenOf_le {size k : Nat} (hk : 0 < k) : lenOf size k ≤ size := by
 unfold lenOf
 rcases Nat.eq_zero_or_pos size with rfl | h
 · rw [Nat.div_eq_of_lt (by omega)]; exact Nat.le_refl _
 · rw [Nat.div_le_iff_le_mul_add_pred hk]
   have : 1 * size ≤ k * size := Nat.mul_le_mul_right _ hk
   omega
theorem length_ok {S : Nat → Prop} {w : World} (size k : Nat) (hs : size ≤ 65536) (hk : 1 ≤ k) (hk2 : k ≤ 255) :
 Calls Tryz.prog 143 #[.I size, .I k] w (Ret fun v w' => Ext w w' ∧ v = .tuple #[.I ((lenOf size k : Nat) : Int), .I 0]) := by
 refine uS1 Tryz.func143 ?_
 have H := Hp.startF (w := w) (S := S) (G := []) .nil
 refine uR 4 [.c [1, 0, 0], .c [1, 0, 1], .c [2]] ?_
 refine qG (sq 0 8) ?_
 refine uP 1 ?_
 refine uK (between_spec (S := fun _ => True) (size : Int) 0 65536) ?_
 rintro _ _ e rfl
 have H := H.ext e
 refine uP 2 ?_
 refine uT 9 (!(decide (0 ≤ (size : Int) ∧ (size : Int) ≤ 65536))) (fun a => ?_) (fun a => ?_)
 ·
  replace a : (decide (0 ≤ (size : Int) ∧ (size : Int) ≤ 65536)) = false := by revert a; cases (decide (0 ≤ (size : Int) ∧ (size : Int) ≤ 65536)) <;> simp
  replace a := of_decide_eq_false a
  exact absurd (by omega) a
 ·
  replace a : (decide (0 ≤ (size : Int) ∧ (size : Int) ≤ 65536)) = true := by revert a; cases (decide (0 ≤ (size : Int) ∧ (size : Int) ≤ 65536)) <;> simp
  replace a := of_decide_eq_true a
  refine uP 1 ?_
  refine uK (between_spec (S := fun _ => True) (k : Int) 1 255) ?_
  rintro _ _ f rfl
  have H := H.ext f
  refine uF 2 ?_
  refine qC (!(decide (1 ≤ (k : Int) ∧ (k : Int) ≤ 255))) (fun b => ?_) (fun b => ?_)
  ·
   replace b : (decide (1 ≤ (k : Int) ∧ (k : Int) ≤ 255)) = false := by revert b; cases (decide (1 ≤ (k : Int) ∧ (k : Int) ≤ 255)) <;> simp
   replace b := of_decide_eq_false b
   exact absurd (by omega) b
  ·
   replace b : (decide (1 ≤ (k : Int) ∧ (k : Int) ≤ 255)) = true := by revert b; cases (decide (1 ≤ (k : Int) ∧ (k : Int) ≤ 255)) <;> simp
   replace b := of_decide_eq_true b
   refine uR 2 [.c [2, 0], .c [3]] ?_
   refine qG (sq 0 8) ?_
   refine uP 2 ?_
   refine uI ((size : Int) + (k : Int)) ?_
   refine uI (((size : Int) + (k : Int)) - 1) ?_
   refine uP 1 ?_
   refine RW.readS (κ := .seq) (d := some 19) (r := (sq 6 8)) (s := semV (Op.intDiv .quo .i64 (((size : Int) + (k : Int)) - 1) (k : Int))) (v := .I ((((size : Int) + (k : Int)) - 1) / (k : Int))) (by as_aux_lemma => kernel_rfl) (fun w' _ => semV_run (quo_run_i64 (by omega) (by omega))) ?_
   refine uF 2 ?_
   refine qT (.tuple #[.I ((((size : Int) + (k : Int)) - 1) / (k : Int)), .I 0]) Tryz.func143 ?_
   refine ⟨_, rfl, H.done, ?_⟩
   rw [lenOf_int (by omega)]
theorem length_bad {S : Nat → Prop} {w : World} (size k : Int) (hb : ¬ (0 ≤ size ∧ size ≤ 65536 ∧ 1 ≤ k ∧ k ≤ 255)) :
 Calls Tryz.prog 143 #[.I size, .I k] w (Ret fun v w' => Ext w w' ∧ v = .tuple #[.I 0, .I 2]) := by
 refine uS1 Tryz.func143 ?_
 have H := Hp.startF (w := w) (S := S) (G := []) .nil
 refine uR 4 [.c [1, 0, 0], .c [1, 0, 1], .c [2]] ?_
 refine qG (sq 0 8) ?_
 refine uP 1 ?_
 refine uK (between_spec (S := fun _ => True) size 0 65536) ?_
 rintro _ _ d rfl
 have H := H.ext d
 refine uP 2 ?_
 refine uT 9 (!(decide (0 ≤ size ∧ size ≤ 65536))) (fun a => ?_) (fun a => ?_)
 ·
  replace a : (decide (0 ≤ size ∧ size ≤ 65536)) = false := by revert a; cases (decide (0 ≤ size ∧ size ≤ 65536)) <;> simp
  replace a := of_decide_eq_false a
  refine uF 4 ?_
  refine uR 3 [.c [1, 0, 1, 0, 1], .c [2]] ?_
  refine qT (.tuple #[.I 0, .I 2]) Tryz.func143 ?_
  exact ⟨_, rfl, H.done, rfl⟩
 ·
  replace a : (decide (0 ≤ size ∧ size ≤ 65536)) = true := by revert a; cases (decide (0 ≤ size ∧ size ≤ 65536)) <;> simp
  replace a := of_decide_eq_true a
  refine uP 1 ?_
  refine uK (between_spec (S := fun _ => True) k 1 255) ?_
  rintro _ _ e rfl
  have H := H.ext e
  refine uF 2 ?_
  refine qC (!(decide (1 ≤ k ∧ k ≤ 255))) (fun b => ?_) (fun b => ?_)
  ·
   replace b : (decide (1 ≤ k ∧ k ≤ 255)) = false := by revert b; cases (decide (1 ≤ k ∧ k ≤ 255)) <;> simp
   replace b := of_decide_eq_false b
   refine uR 2 [.c [1, 0, 1, 0, 1], .c [2]] ?_
   refine qT (.tuple #[.I 0, .I 2]) Tryz.func143 ?_
   exact ⟨_, rfl, H.done, rfl⟩
  ·
   replace b : (decide (1 ≤ k ∧ k ≤ 255)) = true := by revert b; cases (decide (1 ≤ k ∧ k ≤ 255)) <;> simp
   replace b := of_decide_eq_true b
   exact absurd (by omega) hb
theorem sizes_ok {S : Nat → Prop} {w : World} (size k n : Nat) (hs : size ≤ 65536) (hk : 1 ≤ k) (hkn : k ≤ n) (hn : n ≤ 255) :
 Calls Tryz.prog 86 #[.I size, .I k, .I n] w (Ret fun v w' => Ext w w' ∧ v = .tuple #[.I ((lenOf size k : Nat) : Int), .I 0]) := by
 refine uS1 Tryz.func86 ?_
 have H := Hp.startF (w := w) (S := S) (G := []) .nil
 refine uR 3 [.c [1, 0], .c [2]] ?_
 refine qG (sq 0 8) ?_
 refine uP 2 ?_
 refine uK (length_ok (S := fun _ => True) size k (by omega) (by omega) (by omega)) ?_
 rintro _ _ b rfl
 have H := H.ext b
 refine uF 5 ?_
 refine uR 2 [.c [2, 0, 0], .c [2, 0, 1], .c [3]] ?_
 refine qG (sq 0 8) ?_
 refine uP 5 ?_
 refine uK (between_spec (S := fun _ => True) (n : Int) (k : Int) 255) ?_
 rintro _ _ d rfl
 have H := H.ext d
 refine uF 2 ?_
 refine qC (!(decide ((k : Int) ≤ (n : Int) ∧ (n : Int) ≤ 255))) (fun a => ?_) (fun a => ?_)
 ·
  replace a : (decide ((k : Int) ≤ (n : Int) ∧ (n : Int) ≤ 255)) = false := by revert a; cases (decide ((k : Int) ≤ (n : Int) ∧ (n : Int) ≤ 255)) <;> simp
  replace a := of_decide_eq_false a
  exact absurd (by omega) a
 ·
  replace a : (decide ((k : Int) ≤ (n : Int) ∧ (n : Int) ≤ 255)) = true := by revert a; cases (decide ((k : Int) ≤ (n : Int) ∧ (n : Int) ≤ 255)) <;> simp
  replace a := of_decide_eq_true a
  refine uR 3 [.c [4]] ?_
  refine qT (.tuple #[.I ((lenOf size k : Nat) : Int), .I 0]) Tryz.func86 ?_
  exact ⟨_, rfl, H.done, rfl⟩
theorem sizes_badn {S : Nat → Prop} {w : World} (size k : Nat) (n : Int) (hs : size ≤ 65536) (hk : 1 ≤ k) (hk2 : k ≤ 255) (hb : ¬ ((k : Int) ≤ n ∧ n ≤ 255)) :
 Calls Tryz.prog 86 #[.I size, .I k, .I n] w (Ret fun v w' => Ext w w' ∧ v = .tuple #[.I 0, .I 2]) := by
 refine uS1 Tryz.func86 ?_
 have H := Hp.startF (w := w) (S := S) (G := []) .nil
 refine uR 3 [.c [1, 0], .c [2]] ?_
 refine qG (sq 0 8) ?_
 refine uP 2 ?_
 refine uK (length_ok (S := fun _ => True) size k (by omega) (by omega) (by omega)) ?_
 rintro _ _ b rfl
 have H := H.ext b
 refine uF 5 ?_
 refine uR 2 [.c [2, 0, 0], .c [2, 0, 1], .c [3]] ?_
 refine qG (sq 0 8) ?_
 refine uP 5 ?_
 refine uK (between_spec (S := fun _ => True) n (k : Int) 255) ?_
 rintro _ _ d rfl
 have H := H.ext d
 refine uF 2 ?_
 refine qC (!(decide ((k : Int) ≤ n ∧ n ≤ 255))) (fun a => ?_) (fun a => ?_)
 ·
  replace a : (decide ((k : Int) ≤ n ∧ n ≤ 255)) = false := by revert a; cases (decide ((k : Int) ≤ n ∧ n ≤ 255)) <;> simp
  replace a := of_decide_eq_false a
  refine uR 2 [.c [2, 0, 1, 0, 1], .c [3]] ?_
  refine qT (.tuple #[.I 0, .I 2]) Tryz.func86 ?_
  exact ⟨_, rfl, H.done, rfl⟩
 ·
  replace a : (decide ((k : Int) ≤ n ∧ n ≤ 255)) = true := by revert a; cases (decide ((k : Int) ≤ n ∧ n ≤ 255)) <;> simp
  replace a := of_decide_eq_true a
  exact absurd (by omega) hb
theorem sizes_badk {S : Nat → Prop} {w : World} (size k n : Int) (hb : ¬ (0 ≤ size ∧ size ≤ 65536 ∧ 1 ≤ k ∧ k ≤ 255)) :
 Calls Tryz.prog 86 #[.I size, .I k, .I n] w (Ret fun v w' => Ext w w' ∧ v = .tuple #[.I 0, .I 2]) := by
 refine uS1 Tryz.func86 ?_
 have H := Hp.startF (w := w) (S := S) (G := []) .nil
 refine uR 3 [.c [1, 0], .c [2]] ?_
 refine qG (sq 0 8) ?_
 refine uP 2 ?_
 refine uK (length_bad (S := fun _ => True) size k (by omega)) ?_
 rintro _ _ a rfl
 have H := H.ext a
 refine uF 5 ?_
 refine uR 7 [.c [4]] ?_
 refine qT (.tuple #[.I 0, .I 2]) Tryz.func86 ?_
 exact ⟨_, rfl, H.done, rfl⟩
theorem sizes_bad {S : Nat → Prop} {w : World} (size k n : Int) (hb : ¬ (0 ≤ size ∧ size ≤ 65536 ∧ 1 ≤ k ∧ k ≤ n ∧ n ≤ 255)) :
 Calls Tryz.prog 86 #[.I size, .I k, .I n] w (Ret fun v w' => Ext w w' ∧ v = .tuple #[.I 0, .I 2]) := by
 by_cases h : 0 ≤ size ∧ size ≤ 65536 ∧ 1 ≤ k ∧ k ≤ 255
 · obtain ⟨a, _, _, _⟩ := h
   obtain ⟨size, rfl⟩ := Int.eq_ofNat_of_zero_le a
   obtain ⟨k, rfl⟩ := Int.eq_ofNat_of_zero_le (show 0 ≤ k by omega)
   exact sizes_badn (S := S) size k n (by omega) (by omega) (by omega) (by omega)
 · exact sizes_badk (S := S) size k n h
def headsOf (id : CID) (size k : Nat) (cs : List (List (BitVec 8))) : List Hdr := cs.mapIdx fun i c => ⟨⟨id.version, (i : Int), id.epoch⟩, (k : Int), (cs.length : Int), (size : Int), crcF c⟩
theorem headsOf_len {id : CID} {size k : Nat} {cs : List (List (BitVec 8))} : (headsOf id size k cs).length = cs.length := by simp [headsOf]
theorem headsOf_get {id : CID} {size k i : Nat} {cs : List (List (BitVec 8))} (h : i < cs.length) : (headsOf id size k cs)[i]? = some ⟨⟨id.version, (i : Int), id.epoch⟩, (k : Int), (cs.length : Int), (size : Int), crcF cs[i]⟩ := by
 simp [headsOf, h]
theorem heads_ok {S : Nat → Prop} {w : World} {cs : List (List (BitVec 8))} {ac : Option Addr} {kc : Nat} {id : CID} {ids : List Value} (size k : Nat) (h : (Shape.slice SB).rep S w [.slice ac cs.length kc] cs) (hid : cidS.rep S w ids id) (hs : size ≤ 65536) (hk : 1 ≤ k) (hkn : k ≤ cs.length) (hn : cs.length ≤ 255) (hall : ∀ c ∈ cs, c.length = lenOf size k) :
 Calls Tryz.prog 89 #[.slice ac cs.length kc, .agg ids.toArray, .I size, .I k] w (Ret fun v w' => Ext w w' ∧ ∃ (a : Option Addr) (c : Nat), v = .tuple #[.slice a (headsOf id size k cs).length c, .I 0] ∧ (Shape.slice hdrS).rep (Nw S w) w' [.slice a (headsOf id size k cs).length c] (headsOf id size k cs)) := by
 obtain ⟨rfl, _, _, _⟩ := cid_open hid
 refine uS1 Tryz.func89 ?_
 have H := Hp.startF (.rp h .nil)
 refine uR 1 [.c [0], .c [1]] ?_
 refine qG (sq 0 3) ?_
 refine uC #[.int .u64 id.version, .I id.index, .int .u64 id.epoch] 82 H ?_
 intro t _ H
 refine uF 2 ?_
 refine uR 1 [.c [1, 0], .c [2]] ?_
 refine qG (sq 0 10) ?_
 refine uP 4 ?_
 refine uK (sizes_ok (S := fun _ => True) size k cs.length (by omega) (by omega) (by omega) (by omega)) ?_
 rintro _ _ y rfl
 have H := H.ext y
 refine uF 5 ?_
 refine uR 11 [.c [4, 0, 1, 0], .b 0, .c [5]] ?_
 have H := H.ownNil hdrS 100
 refine uL (α := Nat × Int × Option Addr × Nat) (g := 89) (p := [4, 0, 1, 0, 0]) (fun (i, x, ao, co) => [(0, .slice ac cs.length kc), (2, .I size), (3, .I k), (5, .P t 0), (10, .I ((lenOf size k : Nat) : Int)), (12, .slice ao (((headsOf id size k cs).take i).length) co), (26, .slice ac cs.length kc), (27, .I ((cs.length : Nat) : Int)), (28, .I i)]) (fun (i, x, ao, co) w' => Hp w S [] [(t, .cells #[.int .u64 id.version, .I x, .int .u64 id.epoch] 82 (0, 0))] [⟨hdrS, 100, .slice ao (((headsOf id size k cs).take i).length) co, (headsOf id size k cs).take i⟩] [Rp (Shape.slice SB) [.slice ac cs.length kc] cs] w' ∧ i ≤ cs.length) (fun (i, x, ao, co) => cs.length - i) (0, id.index, none, 0) ⟨H, Nat.zero_le _⟩ ?_
 rintro ⟨i, x, ao, co⟩ _ ⟨H, _⟩ e
 refine uR 3 [.c [4, 0, 1, 0, 0, 1, 0], .c [4, 0, 1, 0, 0, 2], .l [4, 0, 1, 0, 0], .b 0, .c [5]] ?_
 refine qD (((i : Int) : Int) < ((cs.length : Nat) : Int)) (fun E => ?_) (fun E => ?_)
 ·
  refine uR 4 [.c [4, 0, 1, 0, 0, 2, 0, 0, 0], .c [4, 0, 1, 0, 0, 2, 0, 0, 1], .b 1, .c [4, 0, 1, 0, 0, 3], .l [4, 0, 1, 0, 0], .b 0, .c [5]] ?_
  refine qG (sq 0 5) ?_
  refine uP 1 ?_
  have z : i < cs.length := by omega
  refine uX 22 (i : Int) H 0 rfl i (by omega) (List.getElem?_eq_getElem z) ?_
  intro F A _ f H
  obtain ⟨B, C, rfl⟩ := Shape.slice_form' f
  have H := H.addR f
  refine uV 23 0 (H.fc 1 rfl) ?_
  refine uF 2 ?_
  refine uR 3 [.c [4, 0, 1, 0, 0, 2, 0, 0, 1, 0, 1], .c [4, 0, 1, 0, 0, 2, 0, 0, 2], .b 1, .c [4, 0, 1, 0, 0, 3], .l [4, 0, 1, 0, 0], .b 0, .c [5]] ?_
  refine qN (((cs[i]).length : Nat) : Int) ((lenOf size k : Nat) : Int) (fun j => ?_) (fun j => ?_)
  ·
   exact absurd (congrArg (fun q : Nat => (q : Int)) (hall (cs[i]) (List.getElem_mem _))) j
  ·
   refine uR 2 [.c [4, 0, 1, 0, 0, 2, 0, 0, 2, 0], .c [4, 0, 1, 0, 0, 2, 0, 0, 3], .b 1, .c [4, 0, 1, 0, 0, 3], .l [4, 0, 1, 0, 0], .b 0, .c [5]] ?_
   refine qG (sq 0 3) ?_
   refine uP 2 ?_
   refine uW 3 1 #[.int .u64 id.version, .I i, .int .u64 id.epoch] H 0 rfl ?_
   intro m H
   refine uF 0 ?_
   refine WK.draw1 10 [(0, .qui), (1, .qui), (2, .qui), (3, .qui), (4, .qui), (5, .qui), (6, .qui), (7, .chn), (8, .qui), (9, .chn)] [(0, .qui), (1, .qui), (2, .qui), (3, .qui), (4, .qui), (5, .qui), (6, .qui), (7, .chn), (8, .qui), (9, .chn), (10, .seq), (11, .seq)] Tryz_mixed (by as_aux_lemma => kernel_rfl) (by as_aux_lemma => kernel_rfl) (by as_aux_lemma => kernel_rfl) ?_
   have H := H.draw
   generalize ({ m with drawn := m.drawn + 1 } : World) = G at H ⊢
   refine uP 1 ?_
   refine uV 82 0 (H.cells 0 rfl) ?_
   refine uP 5 ?_
   refine uK (crcN (xs := cs[i]) (H.rp 0 rfl)) ?_
   rintro _ _ u rfl
   have H := H.ext u
   refine qP 1 [(9, .chn), (10, .seq), (11, .seq)] [(0, .slice ac cs.length kc), (2, .I size), (3, .I k), (5, .P t 0), (10, .I ((lenOf size k : Nat) : Int)), (12, .slice ao (((headsOf id size k cs).take i).length) co), (26, .slice ac cs.length kc), (27, .I ((cs.length : Nat) : Int)), (28, .I i), (39, .slice ao (((headsOf id size k cs).take i).length) co), (47, .agg #[.int .u64 id.version, .I i, .int .u64 id.epoch, .I k, .I ((cs.length : Nat) : Int), .I size, .int .u32 (((crcF (cs[i])).toNat : Nat) : Int)])] ?_
   refine RW.new (κ := .chn) (d := some 48) (r := [(10, .seq), (11, .seq)]) (o := .cells #[.int .u64 id.version, .I i, .int .u64 id.epoch, .I k, .I ((cs.length : Nat) : Int), .I size, .int .u32 (((crcF (cs[i])).toNat : Nat) : Int)] 100 (0, 0)) (v := fun b => .slice (some ⟨b, 0, none⟩) 1 1) (fun b => by as_aux_lemma => kernel_rfl) (nofun) H ?_
   intro D _ H
   have H := H.freeze 0 rfl hdrS ([⟨⟨id.version, (i : Int), id.epoch⟩, (k : Int), ((cs.length : Nat) : Int), (size : Int), crcF (cs[i])⟩] : List Hdr) 1 (by simp [maxLen]) (by first | exact Nat.le_refl _ | simp) (EsP.cons (c := [.int .u64 id.version, .I i, .int .u64 id.epoch, .I k, .I ((cs.length : Nat) : Int), .I size, .int .u32 (((crcF (cs[i])).toNat : Nat) : Int)]) (hdr_mk (cid_mk u64a i64a u64a) i64a i64a i64a Shape.bv_mk) EsP.nil)
   have H : Hp w S [] [_] [_] [Rp (Shape.slice hdrS) [.slice (some ⟨D, 0, none⟩) 1 1] ([⟨⟨id.version, (i : Int), id.epoch⟩, (k : Int), ((cs.length : Nat) : Int), (size : Int), crcF (cs[i])⟩] : List Hdr), _, Fc F A [.slice B (cs[i]).length C], _] _ := H
   refine uA 171 171 56 ((headsOf id size k cs).take (i + 1)) H 0 rfl 0 rfl (take_snocS (headsOf_get (by omega))) (by rw [List.length_take]; omega) ?_
   intro n s _ H _
   have H : Hp w S [] [_] [⟨hdrS, 100, .slice n (((headsOf id size k cs).take (i + 1)).length) s, (headsOf id size k cs).take (i + 1)⟩] [_, _, _, _] _ := H
   refine uF 1 ?_
   refine uR 1 [.c [4, 0, 1, 0, 0, 3], .l [4, 0, 1, 0, 0], .b 0, .c [5]] ?_
   refine qG (sq 0 2) ?_
   refine uI ((i : Int) + 1) ?_
   refine uF 1 ?_
   have H := H.pick [3] rfl
   exact uB (e (i + 1, (i : Int), n, s) _ ⟨H, by omega⟩ (by first | omega | (simp only []; omega)))
 ·
  refine uR 3 [.c [6]] ?_
  refine qT (.tuple #[.slice ao (((headsOf id size k cs).take i).length) co, .I 0]) Tryz.func89 ?_
  have H : Hp w S [] [_] [] [Rp (Shape.slice hdrS) [.slice ao (((headsOf id size k cs).take i).length) co] ((headsOf id size k cs).take i), _] _ := H.freezeW 0 rfl
  rw [List.take_of_length_le (by rw [headsOf_len]; omega)] at H ⊢
  exact ⟨_, rfl, H.done, _, _, rfl, H.out (H.rp 0 rfl)⟩
def okZ (size k n : Int) : Prop := 0 ≤ size ∧ size ≤ 65536 ∧ 1 ≤ k ∧ k ≤ n ∧ n ≤ 255
instance (size k n : Int) : Decidable (okZ size k n) := by unfold okZ; infer_instance
def lzI (size k n : Int) : Int := if okZ size k n then ((lenOf size.toNat k.toNat : Nat) : Int) else 0
def ezI (size k n : Int) : Int := if okZ size k n then 0 else 2
theorem ez_ok {size k n : Int} (h : ezI size k n = 0) : okZ size k n := Classical.byContradiction fun hn => by
 unfold ezI at h
 rw [if_neg hn] at h
 cases h
theorem sizes_gen {S : Nat → Prop} {w : World} (size k n : Int) : Calls Tryz.prog 86 #[.I size, .I k, .I n] w (Ret fun v w' => Ext w w' ∧ v = .tuple #[.I (lzI size k n), .I (ezI size k n)]) := by
 by_cases h : okZ size k n
 · have a := h
   unfold okZ at a
   obtain ⟨size, rfl⟩ : ∃ m : Nat, size = (m : Int) := ⟨size.toNat, by omega⟩
   obtain ⟨k, rfl⟩ : ∃ m : Nat, k = (m : Int) := ⟨k.toNat, by omega⟩
   obtain ⟨n, rfl⟩ : ∃ m : Nat, n = (m : Int) := ⟨n.toNat, by omega⟩
   unfold lzI ezI
   rw [if_pos h, if_pos h]
   exact sizes_ok (S := S) size k n (by omega) (by omega) (by omega) (by omega)
 · unfold lzI ezI
   rw [if_neg h, if_neg h]
   exact sizes_bad (S := S) size k n h
def wholeE (h : Hdr) (data : List (BitVec 8)) : Int :=
 if ezI h.size h.kk h.nn ≠ 0 ∨ ¬ (0 ≤ h.id.index ∧ h.id.index ≤ h.nn - 1) then 2 else
 if ((data.length : Nat) : Int) ≠ lzI h.size h.kk h.nn then 31 else
 if (((crcF data).toNat : Nat) : Int) ≠ ((h.sum.toNat : Nat) : Int) then 92 else 0
theorem whole_spec {S : Nat → Prop} {w : World} {C : Chk} {cs : List Value} (hC : chkS.rep S w cs C) :
 Calls Tryz.prog 37 #[.agg cs.toArray] w (Ret fun v w' => Ext w w' ∧ v = .I (wholeE C.head C.data)) := by
 obtain ⟨_, i, j, rfl, k, l⟩ := chk_open hC
 obtain ⟨_, rfl, d, _, _, _⟩ := hdr_open k
 obtain ⟨rfl, _, _, _⟩ := cid_open d
 refine uS1 Tryz.func37 ?_
 have H := Hp.startF (.rp l .nil)
 refine uR 1 [.c [0], .c [1]] ?_
 refine qG (sq 0 2) ?_
 refine uC #[.int .u64 C.head.id.version, .I C.head.id.index, .int .u64 C.head.id.epoch, .I C.head.kk, .I C.head.nn, .I C.head.size, .int .u32 ((C.head.sum.toNat : Nat) : Int), .slice i C.data.length j, .bool C.done_] 102 H ?_
 intro e _ H
 refine uF 1 ?_
 refine uR 1 [.c [1, 0], .c [2]] ?_
 refine qG (sq 0 4) ?_
 refine uP 1 ?_
 refine uV 100 0 (H.cells 0 rfl) ?_
 refine uC #[.int .u64 0, .I 0, .int .u64 0, .I 0, .I 0, .I 0, .int .u32 0] 100 H ?_
 intro f _ H
 refine uW 100 0 #[.int .u64 C.head.id.version, .I C.head.id.index, .int .u64 C.head.id.epoch, .I C.head.kk, .I C.head.nn, .I C.head.size, .int .u32 ((C.head.sum.toNat : Nat) : Int)] H 0 rfl ?_
 intro _ H
 refine uF 0 ?_
 refine uR 1 [.c [2, 0], .c [3]] ?_
 refine qG (sq 0 12) ?_
 refine uP 1 ?_
 refine uV 3 5 (H.cells 0 rfl) ?_
 refine uP 1 ?_
 refine uV 3 3 (H.cells 0 rfl) ?_
 refine uP 1 ?_
 refine uV 3 4 (H.cells 0 rfl) ?_
 refine uK (sizes_gen (S := fun _ => True) C.head.size C.head.kk C.head.nn) ?_
 rintro _ _ m rfl
 have H := H.ext m
 refine uF 5 ?_
 refine qR 3 [.c [3, 0, 0, 0], .c [3, 0, 0, 1], .b 0, .c [4]] [(1, .P e 0), (3, .P f 0), (4, .I (lzI C.head.size C.head.kk C.head.nn)), (5, .I (ezI C.head.size C.head.kk C.head.nn))] ?_
 refine qG (sq 0 13) ?_
 refine qP 3 (sq 3 13) [(1, .P e 0), (3, .P f 0), (4, .I (lzI C.head.size C.head.kk C.head.nn)), (21, .bool ((ezI C.head.size C.head.kk C.head.nn) != 0))] ?_
 refine Go.BX.tN (fun b_ => [(1, .P e 0), (3, .P f 0), (4, .I (lzI C.head.size C.head.kk C.head.nn)), (21, .bool b_)]) (ezI C.head.size C.head.kk C.head.nn) 0 (fun n => ?_) (fun n => ?_)
 ·
  refine uF 10 ?_
  refine uR 3 [.c [3, 0, 0, 1, 0, 1], .b 0, .c [4]] ?_
  refine qT (.I 2) Tryz.func37 ?_
  refine ⟨_, rfl, H.done, ?_⟩
  congr 1
  symm
  unfold wholeE
  clear H
  rw [if_pos (by omega)]
 ·
  have hokz := ez_ok n
  unfold okZ at hokz
  refine uP 2 ?_
  refine uV 3 1 (H.cells 0 rfl) ?_
  refine uP 1 ?_
  refine uV 3 4 (H.cells 0 rfl) ?_
  refine uI (C.head.nn - 1) ?_
  refine uK (between_spec (S := fun _ => True) C.head.id.index 0 (C.head.nn - 1)) ?_
  rintro _ o g rfl
  have H := H.ext g
  refine uF 3 ?_
  refine qC (!(decide (0 ≤ C.head.id.index ∧ C.head.id.index ≤ C.head.nn - 1))) (fun a => ?_) (fun a => ?_)
  ·
   replace a : (decide (0 ≤ C.head.id.index ∧ C.head.id.index ≤ C.head.nn - 1)) = false := by revert a; cases (decide (0 ≤ C.head.id.index ∧ C.head.id.index ≤ C.head.nn - 1)) <;> simp
   replace a := of_decide_eq_false a
   refine uR 2 [.c [3, 0, 0, 1, 0, 1], .b 0, .c [4]] ?_
   refine qT (.I 2) Tryz.func37 ?_
   refine ⟨_, rfl, H.done, ?_⟩
   congr 1
   symm
   unfold wholeE
   clear H
   rw [if_pos (by omega)]
  ·
   replace a : (decide (0 ≤ C.head.id.index ∧ C.head.id.index ≤ C.head.nn - 1)) = true := by revert a; cases (decide (0 ≤ C.head.id.index ∧ C.head.id.index ≤ C.head.nn - 1)) <;> simp
   replace a := of_decide_eq_true a
   refine uR 1 [.c [3, 0, 0, 1, 1, 0], .c [3, 0, 0, 1, 1, 1], .b 0, .c [4]] ?_
   refine qG (sq 0 6) ?_
   refine uP 1 ?_
   refine uV 23 7 (H.cells 1 rfl) ?_
   refine uF 4 ?_
   refine qN ((C.data.length : Nat) : Int) (lzI C.head.size C.head.kk C.head.nn) (fun p => ?_) (fun p => ?_)
   ·
    refine uR 2 [.c [3, 0, 0, 1, 1, 1, 0, 1], .b 0, .c [4]] ?_
    refine qT (.I 31) Tryz.func37 ?_
    refine ⟨_, rfl, H.done, ?_⟩
    congr 1
    symm
    unfold wholeE
    clear H
    rw [if_neg (by omega), if_pos (by omega)]
   ·
    refine qR 1 [.c [3, 0, 0, 1, 1, 1, 1, 0], .c [3, 0, 0, 1, 1, 1, 1, 1], .b 0, .c [4]] [(1, .P e 0), (3, .P f 0)] ?_
    refine WK.draw1 7 [(0, .qui), (1, .qui), (3, .qui), (4, .qui), (2, .chn), (5, .qui), (6, .qui)] [(0, .qui), (1, .qui), (3, .qui), (4, .qui), (2, .chn), (5, .qui), (6, .qui)] Tryz_mixed (by as_aux_lemma => kernel_rfl) (by as_aux_lemma => kernel_rfl) (by as_aux_lemma => kernel_rfl) ?_
    have H := H.draw
    generalize ({ o with drawn := o.drawn + 1 } : World) = r at H ⊢
    refine uP 1 ?_
    refine uV 23 7 (H.cells 1 rfl) ?_
    refine uP 1 ?_
    refine uV 80 6 (H.cells 0 rfl) ?_
    refine uK (crcN (xs := C.data) (H.rp 0 rfl)) ?_
    rintro _ _ h rfl
    have H := H.ext h
    refine uF 2 ?_
    refine qN (((crcF C.data).toNat : Nat) : Int) ((C.head.sum.toNat : Nat) : Int) (fun q => ?_) (fun q => ?_)
    ·
     refine uR 2 [.c [3, 0, 0, 1, 1, 1, 1, 1, 0, 1], .b 0, .c [4]] ?_
     refine qT (.I 92) Tryz.func37 ?_
     refine ⟨_, rfl, H.done, ?_⟩
     congr 1
     symm
     unfold wholeE
     clear H
     rw [if_neg (by omega), if_neg (by omega), if_pos (by omega)]
    ·
     refine uR 4 [.c [5]] ?_
     refine qT (.I 0) Tryz.func37 ?_
     refine ⟨_, rfl, H.done, ?_⟩
     congr 1
     symm
     unfold wholeE
     clear H
     rw [if_neg (by omega), if_neg (by omega), if_neg (by omega)]
end Go.Proofs.YtdnibpclkhenmaaGreatDoor
