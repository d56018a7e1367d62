import Derived.Test.YtcodkepdolmmbaaDoorSW8
namespace Go.Proofs.YtcodkepdolmmbaaDoor
open Go.BX
def atL (k : Nat) : List (Int × Int × Nat) := (List.range k).map fun i : Nat => ((i : Int), (i : Int), i)
theorem atL_mem {k : Nat} {e : Int × Int × Nat} (h : e ∈ atL k) : e.1 = (e.2.2 : Int) ∧ e.2.1 = (e.2.2 : Int) ∧ e.2.2 < k := by
 obtain ⟨i, hi, rfl⟩ := List.mem_map.1 h
 exact ⟨rfl, rfl, List.mem_range.1 hi⟩
theorem mfind_none {k : Int} : ∀ {L : List (Int × Int × Nat)}, (∀ e ∈ L, e.1 ≠ k) → mfind k L = none
 | [], _ => rfl
 | e :: l, h => by
  unfold mfind
  rw [if_neg (h e (List.mem_cons_self ..))]
  exact mfind_none fun x hx => h x (List.mem_cons_of_mem _ hx)
theorem mset_new {k v : Int} {c : Nat} : ∀ {L : List (Int × Int × Nat)}, (∀ e ∈ L, e.1 ≠ k) → mset k v c L = L ++ [(k, v, c)]
 | [], _ => rfl
 | e :: l, h => by
  unfold mset
  rw [if_neg (h e (List.mem_cons_self ..)), mset_new fun x hx => h x (List.mem_cons_of_mem _ hx)]
  rfl
theorem mfind_some {k : Int} : ∀ {L : List (Int × Int × Nat)} {e : Int × Int × Nat}, e ∈ L → e.1 = k → (mfind k L).isSome = true
 | x :: l, e, h, hk => by
  unfold mfind
  by_cases hx : x.1 = k
  · rw [if_pos hx]; rfl
  · rw [if_neg hx]
    rcases List.mem_cons.1 h with rfl | h
    · exact absurd hk hx
    · exact mfind_some h hk
theorem atL_ne (k : Nat) : ∀ e ∈ atL k, e.1 ≠ (k : Int) := fun e he => by
 have := atL_mem he
 omega
theorem atL_no (k : Nat) : (mfind (k : Int) (atL k)).isSome = false := by rw [mfind_none (atL_ne k)]; rfl
theorem atL_yes {k n : Nat} (h : k < n) : (mfind (k : Int) (atL n)).isSome = true := mfind_some (e := ((k : Int), (k : Int), k)) (List.mem_map.2 ⟨k, List.mem_range.2 h, rfl⟩) rfl
theorem atL_step (k : Nat) : mset (k : Int) (k : Int) k (atL k) = atL (k + 1) := by
 rw [mset_new (atL_ne k)]
 unfold atL
 rw [List.range_succ, List.map_append]; rfl
theorem atL_clk (k : Nat) : mclk (k : Int) k (atL k) = k + 1 := by
 unfold mclk
 rw [atL_no]; rfl
theorem atL_ok (k : Nat) : MOk (atL k) k := by
 refine ⟨?_, ?_, fun x hx => (atL_mem hx).2.2⟩
 · unfold atL
   rw [List.map_map]
   exact List.nodup_range.map _ fun a b h q => h (Int.ofNat.inj q)
 · unfold atL
   rw [List.map_map]
   exact List.nodup_range.map _ fun a b h q => h q
def stT (hs : List Wop) (k : Nat) : Tb := (hs.take k).foldl (fun S x => (doT S x).1) []
theorem stT_step {hs : List Wop} {k : Nat} (h : k < hs.length) : (doT (stT hs k) (hat hs k)).1 = stT hs (k + 1) := by
 unfold stT
 rw [List.take_succ_eq_append_getElem h, List.foldl_append, hat_eq h]; rfl
theorem seq_fold : ∀ {l : List Wop} {S : Tb} {k : Nat}, seqOk S l → (h : k < l.length) → (doT ((l.take k).foldl (fun S x => (doT S x).1) S) l[k]).2 = true
 | x :: r, S, 0, hs, _ => hs.1
 | x :: r, S, k + 1, hs, h => seq_fold (l := r) (S := (doT S x).1) (k := k) hs.2 (Nat.lt_of_succ_lt_succ h)
theorem stT_ok {hs : List Wop} (hr : rightP hs) {k : Nat} (h : k < hs.length) : (doT (stT hs k) (hat hs k)).2 = true := by
 rw [← hat_eq h]
 exact seq_fold hr.2.2.1 h
theorem right_no {hs : List Wop} (hr : rightP hs) {i j : Nat} (hi : i < hs.length) (hj : j < hs.length) (ho : opn (hat hs i) = false) (hf : (hat hs i).fin < (hat hs j).beg) : i ≤ j := by
 rcases Nat.lt_or_ge j i with h | h
 · have := List.pairwise_iff_getElem.1 hr.2.2.2 j i hj hi h
   rw [hat_eq hi, hat_eq hj] at this
   exact absurd ⟨ho, hf⟩ this
 · exact h
theorem right_idl {hs : List Wop} (hr : rightP hs) {i : Nat} (hi : i < hs.length) : idl (hat hs i) = false := hr.2.1 _ (hat_mem hi)
theorem rng_some {n k : Nat} (h : k < n) : (li (List.range n))[k]? = some (k : Int) := by
 rw [li_some (by rw [List.length_range]; exact h), List.getElem_range]
set_option maxHeartbeats 8000000 in
theorem right_spec {S : Nat → Prop} {w : World} {hs : List Wop} {a : Option Addr} {c : Nat} (h : (Shape.slice wopS).rep S w [.slice a hs.length c] hs) {ao : Option Addr} {co : Nat} (ho : (Shape.slice (Shape.int .i64)).rep S w [.slice ao ((li (List.range hs.length)).length) co] (li (List.range hs.length))) (hr : rightP hs) (hsz : szH hs) :
 Calls Tryd.prog 11 #[.slice a hs.length c, .slice ao ((li (List.range hs.length)).length) co] w (Ret fun v w' => Ext w w' ∧ v = .bool true) := by
 have hlen := Shape.slice_len h
 have hol : (li (List.range hs.length)).length = hs.length := by rw [li_len, List.length_range]
 have hhl := hr.1.1
 refine qS (fn := Tryd.f11) (n := 137) (σ := [(0, .slice a hs.length c), (1, .slice ao ((li (List.range hs.length)).length) co)]) Tryd.func11 ?_
 have H := Hp.startF (w := w) (S := S) (G := [Rp (Shape.slice wopS) [.slice a hs.length c] hs, Rp (Shape.slice (Shape.int .i64)) [.slice ao ((li (List.range hs.length)).length) co] (li (List.range hs.length))]) (.rp h (.rp ho .nil))
 refine qR 4 [.c [1, 0, 0], .c [1, 0, 1], .c [2]] [(0, .slice a hs.length c), (1, .slice ao ((li (List.range hs.length)).length) co)] ?_
 refine qG (sq 0 3) ?_
 refine qP 1 (sq 1 3) [(0, .slice a hs.length c), (1, .slice ao ((li (List.range hs.length)).length) co), (21, .slice a hs.length c)] ?_
 refine qK .seq (some 22) (sq 2 3) 13 #[.slice a hs.length c] (check_spec (hs := hs) (H.rp 0 rfl)) ?_
 rintro _ w1 hE2 ⟨er3, rfl, her4, hok5⟩
 have H := H.ext hE2
 refine qF 1 [(0, .slice a hs.length c), (1, .slice ao ((li (List.range hs.length)).length) co), (23, .bool (er3 != 0))] ?_
 refine qN er3 0 (fun h6 => ?_) (fun h6 => ?_)
 ·
  exact absurd (hok5.2 hr.1) h6
 ·
  refine qR 2 [.c [2, 0], .c [3]] [(0, .slice a hs.length c), (1, .slice ao ((li (List.range hs.length)).length) co)] ?_
  refine qG (sq 0 2) ?_
  refine RW.new (κ := .seq) (d := some 24) (r := (sq 1 2)) (o := mapO (Value.int .i64) (Value.int .i64) ([] : List (Int × Int × Nat)) 0) (v := fun b_ => .map (some b_)) (fun _ => by as_aux_lemma => kernel_rfl) (nofun) H ?_
  intro b7 w8 H
  refine qF 1 [(0, .slice a hs.length c), (1, .slice ao ((li (List.range hs.length)).length) co), (5, .map (some b7))] ?_
  refine qR 1 [.c [3, 0], .c [4]] [(0, .slice a hs.length c), (1, .slice ao ((li (List.range hs.length)).length) co), (5, .map (some b7))] ?_
  refine qG (sq 0 2) ?_
  refine RW.new (κ := .seq) (d := some 25) (r := (sq 1 2)) (o := mapO Value.string Value.string ([] : List (ByteArray × ByteArray × Nat)) 0) (v := fun b_ => .map (some b_)) (fun _ => by as_aux_lemma => kernel_rfl) (nofun) H ?_
  intro b9 w10 H
  refine qF 1 [(0, .slice a hs.length c), (1, .slice ao ((li (List.range hs.length)).length) co), (5, .map (some b7)), (6, .map (some b9))] ?_
  refine qR 4 [.c [4, 0, 1, 0], .b 0, .c [5]] [(0, .slice a hs.length c), (5, .map (some b7)), (6, .map (some b9)), (26, .slice ao ((li (List.range hs.length)).length) co), (27, .I (((li (List.range hs.length)).length : Nat) : Int)), (28, .I 0)] ?_
  have H := H.freezeO
  have H : Hp w S [] [(b7, mapO (Value.int .i64) (Value.int .i64) ([] : List (Int × Int × Nat)) 0)] [] [Fm b9 (mapO Value.string Value.string ([] : List (ByteArray × ByteArray × Nat)) 0), Rp (Shape.slice wopS) [.slice a hs.length c] hs, Rp (Shape.slice (Shape.int .i64)) [.slice ao ((li (List.range hs.length)).length) co] (li (List.range hs.length))] _ := H
  have H := H.drop (M' := [(b7, mapO (Value.int .i64) (Value.int .i64) (atL 0) 0)]) (W' := []) (by repeat (first | exact List.Sublist.refl _ | exact List.nil_sublist _ | apply List.Sublist.cons_cons | apply List.Sublist.cons)) (by repeat (first | exact List.Sublist.refl _ | exact List.nil_sublist _ | apply List.Sublist.cons_cons | apply List.Sublist.cons))
  refine WK.loop (α := Nat × Nat × List (ByteArray × ByteArray × Nat) × Nat) (b := cd Tryd.prog 11 [4, 0, 1, 0, 0]) (by as_aux_lemma => kernel_rfl) (fun st_ => match st_ with | (k, tk, Lk, ck) => [(0, .slice a hs.length c), (5, .map (some b7)), (6, .map (some tk)), (26, .slice ao ((li (List.range hs.length)).length) co), (27, .I (((li (List.range hs.length)).length : Nat) : Int)), (28, .I k)]) (fun st_ w' => match st_ with | (k, tk, Lk, ck) => Hp w S [] [(b7, mapO (Value.int .i64) (Value.int .i64) (atL k) k)] [] [Fm tk (mapO Value.string Value.string Lk ck), Rp (Shape.slice wopS) [.slice a hs.length c] hs, Rp (Shape.slice (Shape.int .i64)) [.slice ao ((li (List.range hs.length)).length) co] (li (List.range hs.length))] w' ∧ k ≤ hs.length ∧ TabOk Lk ck (stT hs k) ∧ (stT hs k).length ≤ k ∧ ∀ p ∈ stT hs k, p.1.size ≤ 1048576 ∧ p.2.size ≤ 1048576) (fun st_ => match st_ with | (k, tk, Lk, ck) => hs.length - k) (0, b9, ([] : List (ByteArray × ByteArray × Nat)), 0) ⟨H, Nat.zero_le _, TabOk.nil, Nat.le_refl _, fun p hp => by cases hp⟩ (rfl) ?_
  rintro ⟨k, tk, Lk, ck⟩ w12 ⟨H, hinv0⟩ hback11
  refine qR 3 [.c [4, 0, 1, 0, 0, 1, 0], .c [4, 0, 1, 0, 0, 2], .l [4, 0, 1, 0, 0], .b 0, .c [5]] [(0, .slice a hs.length c), (5, .map (some b7)), (6, .map (some tk)), (26, .slice ao ((li (List.range hs.length)).length) co), (27, .I (((li (List.range hs.length)).length : Nat) : Int)), (28, .I k), (29, .bool (decide (((k : Int) : Int) < (((li (List.range hs.length)).length : Nat) : Int))))] ?_
  refine qD (((k : Int) : Int) < (((li (List.range hs.length)).length : Nat) : Int)) (fun h13 => ?_) (fun h13 => ?_)
  ·
   have hk1 : k < hs.length := by omega
   refine qR 4 [.c [4, 0, 1, 0, 0, 2, 0, 0, 0], .c [4, 0, 1, 0, 0, 2, 0, 0, 1], .b 1, .c [4, 0, 1, 0, 0, 3], .l [4, 0, 1, 0, 0], .b 0, .c [5]] [(0, .slice a hs.length c), (5, .map (some b7)), (6, .map (some tk)), (26, .slice ao ((li (List.range hs.length)).length) co), (27, .I (((li (List.range hs.length)).length : Nat) : Int)), (28, .I k)] ?_
   refine qG (sq 0 5) ?_
   refine qP 1 (sq 1 5) [(0, .slice a hs.length c), (5, .map (some b7)), (6, .map (some tk)), (26, .slice ao ((li (List.range hs.length)).length) co), (27, .I (((li (List.range hs.length)).length : Nat) : Int)), (28, .I k), (30, .I k)] ?_
   have hx14 : k < (li (List.range hs.length)).length := by omega
   refine qX .seq 31 (sq 2 5) 36 3 (k : Int) (Shape.int .i64) (k : Int) H 2 rfl k (by omega) (rng_some hk1) ?_
   intro b15 o16 es17 hr18 H
   have hb19 := Shape.i64_bd hr18
   obtain ⟨rfl, -⟩ := hr18
   refine qL .seq 32 (sq 3 5) 3 b15 o16 0 (.I k) (H.fc 0 rfl) ?_
   refine qF 2 [(0, .slice a hs.length c), (5, .map (some b7)), (6, .map (some tk)), (7, .I k), (8, .I k), (26, .slice ao ((li (List.range hs.length)).length) co), (27, .I (((li (List.range hs.length)).length : Nat) : Int)), (28, .I k)] ?_
   refine qR 2 [.c [4, 0, 1, 0, 0, 2, 0, 0, 1, 0, 0], .c [4, 0, 1, 0, 0, 2, 0, 0, 1, 0, 1], .c [4, 0, 1, 0, 0, 2, 0, 0, 2], .b 1, .c [4, 0, 1, 0, 0, 3], .l [4, 0, 1, 0, 0], .b 0, .c [5]] [(0, .slice a hs.length c), (5, .map (some b7)), (6, .map (some tk)), (7, .I k), (8, .I k), (26, .slice ao ((li (List.range hs.length)).length) co), (27, .I (((li (List.range hs.length)).length : Nat) : Int)), (28, .I k)] ?_
   refine qG (sq 0 8) ?_
   refine qP 2 (sq 2 8) [(0, .slice a hs.length c), (5, .map (some b7)), (6, .map (some tk)), (7, .I k), (8, .I k), (26, .slice ao ((li (List.range hs.length)).length) co), (27, .I (((li (List.range hs.length)).length : Nat) : Int)), (28, .I k), (34, .map (some b7)), (35, .I k)] ?_
   refine RW.mapGet (κ := .seq) (d := some 36) (r := (sq 3 8)) (T := 54) (mk := (Value.int .i64)) (vk := (Value.int .i64)) (Kt := 3) (E := 3) (z := 0) (k : Int) true (by as_aux_lemma => kernel_rfl) H 0 rfl (KeyOk.int (by as_aux_lemma => kernel_rfl)) (by as_aux_lemma => kernel_rfl) (fun w_ => zeroE_run (by as_aux_lemma => kernel_rfl) w_) ?_
   refine qF 5 [(0, .slice a hs.length c), (5, .map (some b7)), (6, .map (some tk)), (7, .I k), (8, .I k), (10, .bool ((mfind (k : Int) (atL k)).isSome)), (26, .slice ao ((li (List.range hs.length)).length) co), (27, .I (((li (List.range hs.length)).length : Nat) : Int)), (28, .I k)] ?_
   refine qR 1 [.c [4, 0, 1, 0, 0, 2, 0, 0, 1, 0, 1, 0], .c [4, 0, 1, 0, 0, 2, 0, 0, 1, 0, 2], .c [4, 0, 1, 0, 0, 2, 0, 0, 2], .b 1, .c [4, 0, 1, 0, 0, 3], .l [4, 0, 1, 0, 0], .b 0, .c [5]] [(0, .slice a hs.length c), (5, .map (some b7)), (6, .map (some tk)), (7, .I k), (8, .I k), (10, .bool ((mfind (k : Int) (atL k)).isSome)), (26, .slice ao ((li (List.range hs.length)).length) co), (27, .I (((li (List.range hs.length)).length : Nat) : Int)), (28, .I k)] ?_
   refine qG (sq 0 18) ?_
   refine qP 2 (sq 2 18) [(0, .slice a hs.length c), (5, .map (some b7)), (6, .map (some tk)), (7, .I k), (8, .I k), (26, .slice ao ((li (List.range hs.length)).length) co), (27, .I (((li (List.range hs.length)).length : Nat) : Int)), (28, .I k), (40, .bool ((mfind (k : Int) (atL k)).isSome))] ?_
   refine RW.test (fun b_ => [(0, .slice a hs.length c), (5, .map (some b7)), (6, .map (some tk)), (7, .I k), (8, .I k), (26, .slice ao ((li (List.range hs.length)).length) co), (27, .I (((li (List.range hs.length)).length : Nat) : Int)), (28, .I k), (40, .bool b_)]) ((mfind (k : Int) (atL k)).isSome) (fun h20 => ?_) (fun h20 => ?_)
   ·
    exact absurd h20 (by rw [atL_no]; decide)
   ·
    refine qP 4 (sq 6 18) [(0, .slice a hs.length c), (5, .map (some b7)), (6, .map (some tk)), (7, .I k), (8, .I k), (26, .slice ao ((li (List.range hs.length)).length) co), (27, .I (((li (List.range hs.length)).length : Nat) : Int)), (28, .I k), (44, .bool (decide (((k : Int) : Int) < 0)))] ?_
    refine tD (fun b_ => [(0, .slice a hs.length c), (5, .map (some b7)), (6, .map (some tk)), (7, .I k), (8, .I k), (26, .slice ao ((li (List.range hs.length)).length) co), (27, .I (((li (List.range hs.length)).length : Nat) : Int)), (28, .I k), (44, .bool b_)]) (((k : Int) : Int) < 0) (fun h21 => ?_) (fun h21 => ?_)
    ·
     omega
    ·
     refine qP 6 (sq 12 18) [(0, .slice a hs.length c), (5, .map (some b7)), (6, .map (some tk)), (7, .I k), (8, .I k), (26, .slice ao ((li (List.range hs.length)).length) co), (27, .I (((li (List.range hs.length)).length : Nat) : Int)), (28, .I k), (50, .bool (decide (((k : Int) : Int) ≥ ((hs.length : Nat) : Int))))] ?_
     refine tD (fun b_ => [(0, .slice a hs.length c), (5, .map (some b7)), (6, .map (some tk)), (7, .I k), (8, .I k), (26, .slice ao ((li (List.range hs.length)).length) co), (27, .I (((li (List.range hs.length)).length : Nat) : Int)), (28, .I k), (50, .bool b_)]) (((k : Int) : Int) ≥ ((hs.length : Nat) : Int)) (fun h22 => ?_) (fun h22 => ?_)
     ·
      omega
     ·
      refine qP 2 (sq 14 18) [(0, .slice a hs.length c), (5, .map (some b7)), (6, .map (some tk)), (7, .I k), (8, .I k), (26, .slice ao ((li (List.range hs.length)).length) co), (27, .I (((li (List.range hs.length)).length : Nat) : Int)), (28, .I k), (50, .bool false), (51, .slice a hs.length c), (52, .I k)] ?_
      have hx23 : k < hs.length := by omega
      refine qX .seq 53 (sq 15 18) 22 33 (k : Int) wopS (hat hs k) H 2 rfl k (by omega) (hat_some hk1) ?_
      intro b24 o25 es26 hr27 H
      obtain ⟨a4q28, k4q28, a6q28, k6q28, a7q28, k7q28, rfl, hf29, hf30, hf31, hf32, hf33, hf34, hf35, hf36, hf37, hf38⟩ := wop_open hr27
      have H := H.add (F := Rp SB [.slice a4q28 ((hat hs k).data.length) k4q28] ((hat hs k).data)) hf33
      have H := H.add (F := Rp SB [.slice a6q28 ((hat hs k).answer.length) k6q28] ((hat hs k).answer)) hf35
      have H := H.add (F := Rp (Shape.slice Shape.str) [.slice a7q28 ((hat hs k).names.length) k7q28] ((hat hs k).names)) hf36
      refine qL .seq 54 (sq 16 18) 33 b24 o25 0 (.agg #[.int .u64 ((hat hs k).client), .int .u64 ((hat hs k).seq), .I ((hat hs k).kind), .string ((hat hs k).key), .slice a4q28 ((hat hs k).data.length) k4q28, .I ((hat hs k).code), .slice a6q28 ((hat hs k).answer.length) k6q28, .slice a7q28 ((hat hs k).names.length) k7q28, .I ((hat hs k).beg), .I ((hat hs k).fin)]) (H.fc 3 rfl) ?_
      refine qK .seq (some 55) (sq 17 18) 15 #[.agg #[.int .u64 ((hat hs k).client), .int .u64 ((hat hs k).seq), .I ((hat hs k).kind), .string ((hat hs k).key), .slice a4q28 ((hat hs k).data.length) k4q28, .I ((hat hs k).code), .slice a6q28 ((hat hs k).answer.length) k6q28, .slice a7q28 ((hat hs k).names.length) k7q28, .I ((hat hs k).beg), .I ((hat hs k).fin)]] (idle_spec (x := (hat hs k)) (wop_mk (l0 := [.int .u64 ((hat hs k).client)]) (y0 := (hat hs k).client) (l1 := [.int .u64 ((hat hs k).seq)]) (y1 := (hat hs k).seq) (l2 := [.I ((hat hs k).kind)]) (y2 := (hat hs k).kind) (l3 := [.string ((hat hs k).key)]) (y3 := (hat hs k).key) (l4 := [.slice a4q28 ((hat hs k).data.length) k4q28]) (y4 := (hat hs k).data) (l5 := [.I ((hat hs k).code)]) (y5 := (hat hs k).code) (l6 := [.slice a6q28 ((hat hs k).answer.length) k6q28]) (y6 := (hat hs k).answer) (l7 := [.slice a7q28 ((hat hs k).names.length) k7q28]) (y7 := (hat hs k).names) (l8 := [.I ((hat hs k).beg)]) (y8 := (hat hs k).beg) (l9 := [.I ((hat hs k).fin)]) (y9 := (hat hs k).fin) u64a u64a i64a ⟨rfl, by first | assumption | (simp [maxLen]; done) | decide⟩ (H.rp 2 rfl) i64a (H.rp 1 rfl) (H.rp 0 rfl) i64a i64a)) ?_
      rintro _ w39 hE40 rfl
      have H := H.ext hE40
      refine qF 1 [(0, .slice a hs.length c), (5, .map (some b7)), (6, .map (some tk)), (7, .I k), (8, .I k), (26, .slice ao ((li (List.range hs.length)).length) co), (27, .I (((li (List.range hs.length)).length : Nat) : Int)), (28, .I k), (56, .bool (idl (hat hs k)))] ?_
      refine qC (idl (hat hs k)) (fun h41 => ?_) (fun h41 => ?_)
      ·
       exact absurd h41 (by simp [right_idl hr hk1])
      ·
       refine qR 2 [.c [4, 0, 1, 0, 0, 2, 0, 0, 2, 0], .c [4, 0, 1, 0, 0, 2, 0, 0, 3], .b 1, .c [4, 0, 1, 0, 0, 3], .l [4, 0, 1, 0, 0], .b 0, .c [5]] [(0, .slice a hs.length c), (5, .map (some b7)), (6, .map (some tk)), (7, .I k), (8, .I k), (26, .slice ao ((li (List.range hs.length)).length) co), (27, .I (((li (List.range hs.length)).length : Nat) : Int)), (28, .I k)] ?_
       refine qG (sq 0 4) ?_
       refine qP 3 (sq 3 4) [(0, .slice a hs.length c), (5, .map (some b7)), (6, .map (some tk)), (8, .I k), (26, .slice ao ((li (List.range hs.length)).length) co), (27, .I (((li (List.range hs.length)).length : Nat) : Int)), (28, .I k), (57, .map (some b7)), (58, .I k), (59, .I k)] ?_
       refine RW.mapSet (d := none) (r := (sq 4 4)) (T := 54) (mk := (Value.int .i64)) (vk := (Value.int .i64)) (Kt := 3) (E := 3) (M' := [(b7, mapO (Value.int .i64) (Value.int .i64) (mset (k : Int) (k : Int) k (atL k)) (mclk (k : Int) k (atL k)))]) (k : Int) (k : Int) (by as_aux_lemma => kernel_rfl) H 0 rfl (KeyOk.int (by as_aux_lemma => kernel_rfl)) (by as_aux_lemma => kernel_rfl) rfl ?_
       intro w42 hCw42 H
       refine qF 0 [(0, .slice a hs.length c), (5, .map (some b7)), (6, .map (some tk)), (8, .I k), (26, .slice ao ((li (List.range hs.length)).length) co), (27, .I (((li (List.range hs.length)).length : Nat) : Int)), (28, .I k)] ?_
       refine qR 1 [.c [4, 0, 1, 0, 0, 2, 0, 0, 3, 0], .c [4, 0, 1, 0, 0, 2, 0, 0, 4], .b 1, .c [4, 0, 1, 0, 0, 3], .l [4, 0, 1, 0, 0], .b 0, .c [5]] [(0, .slice a hs.length c), (5, .map (some b7)), (6, .map (some tk)), (8, .I k), (26, .slice ao ((li (List.range hs.length)).length) co), (27, .I (((li (List.range hs.length)).length : Nat) : Int)), (28, .I k)] ?_
       refine qG (sq 0 11) ?_
       refine qP 3 (sq 3 11) [(0, .slice a hs.length c), (5, .map (some b7)), (26, .slice ao ((li (List.range hs.length)).length) co), (27, .I (((li (List.range hs.length)).length : Nat) : Int)), (28, .I k), (61, .map (some tk)), (62, .slice a hs.length c), (63, .I k)] ?_
       have hx43 : k < hs.length := by omega
       refine qX .seq 64 (sq 4 11) 22 33 (k : Int) wopS (hat hs k) H 6 rfl k (by omega) (hat_some hk1) ?_
       intro b44 o45 es46 hr47 H
       obtain ⟨a4q48, k4q48, a6q48, k6q48, a7q48, k7q48, rfl, hf49, hf50, hf51, hf52, hf53, hf54, hf55, hf56, hf57, hf58⟩ := wop_open hr47
       have H := H.add (F := Rp SB [.slice a4q48 ((hat hs k).data.length) k4q48] ((hat hs k).data)) hf53
       have H := H.add (F := Rp SB [.slice a6q48 ((hat hs k).answer.length) k6q48] ((hat hs k).answer)) hf55
       have H := H.add (F := Rp (Shape.slice Shape.str) [.slice a7q48 ((hat hs k).names.length) k7q48] ((hat hs k).names)) hf56
       refine qL .seq 65 (sq 5 11) 33 b44 o45 0 (.agg #[.int .u64 ((hat hs k).client), .int .u64 ((hat hs k).seq), .I ((hat hs k).kind), .string ((hat hs k).key), .slice a4q48 ((hat hs k).data.length) k4q48, .I ((hat hs k).code), .slice a6q48 ((hat hs k).answer.length) k6q48, .slice a7q48 ((hat hs k).names.length) k7q48, .I ((hat hs k).beg), .I ((hat hs k).fin)]) (H.fc 3 rfl) ?_
       refine qK .seq (some 66) (sq 6 11) 16 #[.map (some tk), .agg #[.int .u64 ((hat hs k).client), .int .u64 ((hat hs k).seq), .I ((hat hs k).kind), .string ((hat hs k).key), .slice a4q48 ((hat hs k).data.length) k4q48, .I ((hat hs k).code), .slice a6q48 ((hat hs k).answer.length) k6q48, .slice a7q48 ((hat hs k).names.length) k7q48, .I ((hat hs k).beg), .I ((hat hs k).fin)]] (do_spec hinv0.2.1 ⟨by have := hr.1.1; omega, hinv0.2.2.2⟩ (x := (hat hs k)) (wop_mk (l0 := [.int .u64 ((hat hs k).client)]) (y0 := (hat hs k).client) (l1 := [.int .u64 ((hat hs k).seq)]) (y1 := (hat hs k).seq) (l2 := [.I ((hat hs k).kind)]) (y2 := (hat hs k).kind) (l3 := [.string ((hat hs k).key)]) (y3 := (hat hs k).key) (l4 := [.slice a4q48 ((hat hs k).data.length) k4q48]) (y4 := (hat hs k).data) (l5 := [.I ((hat hs k).code)]) (y5 := (hat hs k).code) (l6 := [.slice a6q48 ((hat hs k).answer.length) k6q48]) (y6 := (hat hs k).answer) (l7 := [.slice a7q48 ((hat hs k).names.length) k7q48]) (y7 := (hat hs k).names) (l8 := [.I ((hat hs k).beg)]) (y8 := (hat hs k).beg) (l9 := [.I ((hat hs k).fin)]) (y9 := (hat hs k).fin) u64a u64a i64a ⟨rfl, by first | assumption | (simp [maxLen]; done) | decide⟩ (H.rp 2 rfl) i64a (H.rp 1 rfl) (H.rp 0 rfl) i64a i64a) (H.fact 9 rfl)) ?_
       rintro _ w59 - ⟨tb60, L61, ct62, rfl, hT63, H'⟩
       have H := H.back (M1 := []) (W1 := []) H'
       have H : Hp w S [] [(b7, mapO (Value.int .i64) (Value.int .i64) (mset (k : Int) (k : Int) k (atL k)) (mclk (k : Int) k (atL k)))] [] [Fm tb60 (mapO Value.string Value.string L61 ct62), Rp (Shape.slice Shape.str) [.slice a7q48 ((hat hs k).names.length) k7q48] ((hat hs k).names), Rp SB [.slice a6q48 ((hat hs k).answer.length) k6q48] ((hat hs k).answer), Rp SB [.slice a4q48 ((hat hs k).data.length) k4q48] ((hat hs k).data), Fc b44 o45 [.int .u64 ((hat hs k).client), .int .u64 ((hat hs k).seq), .I ((hat hs k).kind), .string ((hat hs k).key), .slice a4q48 ((hat hs k).data.length) k4q48, .I ((hat hs k).code), .slice a6q48 ((hat hs k).answer.length) k6q48, .slice a7q48 ((hat hs k).names.length) k7q48, .I ((hat hs k).beg), .I ((hat hs k).fin)], Rp (Shape.slice Shape.str) [.slice a7q28 ((hat hs k).names.length) k7q28] ((hat hs k).names), Rp SB [.slice a6q28 ((hat hs k).answer.length) k6q28] ((hat hs k).answer), Rp SB [.slice a4q28 ((hat hs k).data.length) k4q28] ((hat hs k).data), Fc b24 o25 [.int .u64 ((hat hs k).client), .int .u64 ((hat hs k).seq), .I ((hat hs k).kind), .string ((hat hs k).key), .slice a4q28 ((hat hs k).data.length) k4q28, .I ((hat hs k).code), .slice a6q28 ((hat hs k).answer.length) k6q28, .slice a7q28 ((hat hs k).names.length) k7q28, .I ((hat hs k).beg), .I ((hat hs k).fin)], Fc b15 o16 [.I k], Fm tk (mapO Value.string Value.string Lk ck), Rp (Shape.slice wopS) [.slice a hs.length c] hs, Rp (Shape.slice (Shape.int .i64)) [.slice ao ((li (List.range hs.length)).length) co] (li (List.range hs.length))] _ := H
       refine qF 5 [(0, .slice a hs.length c), (5, .map (some b7)), (11, .map (some tb60)), (12, .bool ((doT (stT hs k) (hat hs k)).2)), (26, .slice ao ((li (List.range hs.length)).length) co), (27, .I (((li (List.range hs.length)).length : Nat) : Int)), (28, .I k)] ?_
       refine qR 3 [.c [4, 0, 1, 0, 0, 2, 0, 0, 4, 0, 1], .c [4, 0, 1, 0, 0, 2, 0, 0, 5], .b 1, .c [4, 0, 1, 0, 0, 3], .l [4, 0, 1, 0, 0], .b 0, .c [5]] [(0, .slice a hs.length c), (5, .map (some b7)), (11, .map (some tb60)), (26, .slice ao ((li (List.range hs.length)).length) co), (27, .I (((li (List.range hs.length)).length : Nat) : Int)), (28, .I k), (70, .bool (!((doT (stT hs k) (hat hs k)).2)))] ?_
       refine qC (!((doT (stT hs k) (hat hs k)).2)) (fun h64 => ?_) (fun h64 => ?_)
       ·
        replace h64 : ((doT (stT hs k) (hat hs k)).2) = false := by revert h64; cases ((doT (stT hs k) (hat hs k)).2) <;> simp
        exact absurd h64 (by simp [stT_ok hr hk1])
       ·
        replace h64 : ((doT (stT hs k) (hat hs k)).2) = true := by revert h64; cases ((doT (stT hs k) (hat hs k)).2) <;> simp
        refine qR 3 [.c [4, 0, 1, 0, 0, 3], .l [4, 0, 1, 0, 0], .b 0, .c [5]] [(0, .slice a hs.length c), (5, .map (some b7)), (6, .map (some tb60)), (26, .slice ao ((li (List.range hs.length)).length) co), (27, .I (((li (List.range hs.length)).length : Nat) : Int)), (28, .I k)] ?_
        refine qG (sq 0 2) ?_
        refine qI .seq 72 (sq 1 2) ((k : Int) + 1) ?_
        refine qF 1 [(0, .slice a hs.length c), (5, .map (some b7)), (6, .map (some tb60)), (26, .slice ao ((li (List.range hs.length)).length) co), (27, .I (((li (List.range hs.length)).length : Nat) : Int)), (28, .I ((k : Int) + 1))] ?_
        rw [atL_step, atL_clk] at H
        have H := H.pick [0, 11, 12] rfl
        have H := H.drop (M' := [(b7, mapO (Value.int .i64) (Value.int .i64) (atL (k + 1)) (k + 1))]) (W' := []) (by repeat (first | exact List.Sublist.refl _ | apply List.Sublist.cons_cons | apply List.Sublist.cons)) (by repeat (first | exact List.Sublist.refl _ | apply List.Sublist.cons_cons | apply List.Sublist.cons))
        exact WK.back (hback11 (k + 1, tb60, L61, ct62) _ ⟨H, by omega, by rw [← stT_step hk1]; assumption, by rw [← stT_step hk1]; exact Nat.le_trans (doT_len _ _) (by omega), by rw [← stT_step hk1]; exact doT_szs hinv0.2.2.2 (hsz _ (hat_mem hk1)).1 (hsz _ (hat_mem hk1)).2⟩ (by first | omega | (simp only []; omega))) (by as_aux_lemma => kernel_rfl)
  ·
   obtain rfl : k = hs.length := by omega
   refine qR 5 [.c [5, 0, 1, 0], .b 2, .c [6]] [(0, .slice a hs.length c), (5, .map (some b7)), (73, .slice a hs.length c), (74, .I ((hs.length : Nat) : Int)), (75, .I 0)] ?_
   refine WK.loop (α := Nat) (b := cd Tryd.prog 11 [5, 0, 1, 0, 0]) (by as_aux_lemma => kernel_rfl) (fun i => [(0, .slice a hs.length c), (5, .map (some b7)), (73, .slice a hs.length c), (74, .I ((hs.length : Nat) : Int)), (75, .I i)]) (fun i w' => Hp w S [] [(b7, mapO (Value.int .i64) (Value.int .i64) (atL hs.length) hs.length)] [] [Fm tk (mapO Value.string Value.string Lk ck), Rp (Shape.slice wopS) [.slice a hs.length c] hs, Rp (Shape.slice (Shape.int .i64)) [.slice ao ((li (List.range hs.length)).length) co] (li (List.range hs.length))] w' ∧ i ≤ hs.length) (fun i => hs.length - i) 0 ⟨H, Nat.zero_le _⟩ (rfl) ?_
   rintro i w66 ⟨H, hinv1⟩ hback65
   refine qR 3 [.c [5, 0, 1, 0, 0, 1, 0], .c [5, 0, 1, 0, 0, 2], .l [5, 0, 1, 0, 0], .b 2, .c [6]] [(0, .slice a hs.length c), (5, .map (some b7)), (73, .slice a hs.length c), (74, .I ((hs.length : Nat) : Int)), (75, .I i), (76, .bool (decide (((i : Int) : Int) < ((hs.length : Nat) : Int))))] ?_
   refine qD (((i : Int) : Int) < ((hs.length : Nat) : Int)) (fun h67 => ?_) (fun h67 => ?_)
   ·
    have hi1 : i < hs.length := by omega
    refine qR 4 [.c [5, 0, 1, 0, 0, 2, 0, 0, 0], .c [5, 0, 1, 0, 0, 2, 0, 0, 1], .b 3, .c [5, 0, 1, 0, 0, 3], .l [5, 0, 1, 0, 0], .b 2, .c [6]] [(0, .slice a hs.length c), (5, .map (some b7)), (73, .slice a hs.length c), (74, .I ((hs.length : Nat) : Int)), (75, .I i)] ?_
    refine qG (sq 0 6) ?_
    refine qP 1 (sq 1 6) [(0, .slice a hs.length c), (5, .map (some b7)), (73, .slice a hs.length c), (74, .I ((hs.length : Nat) : Int)), (75, .I i), (77, .I i)] ?_
    have hx68 : i < hs.length := by omega
    refine qX .seq 78 (sq 2 6) 22 33 (i : Int) wopS (hat hs i) H 1 rfl i (by omega) (hat_some hi1) ?_
    intro b69 o70 es71 hr72 H
    obtain ⟨a4q73, k4q73, a6q73, k6q73, a7q73, k7q73, rfl, hf74, hf75, hf76, hf77, hf78, hf79, hf80, hf81, hf82, hf83⟩ := wop_open hr72
    have H := H.add (F := Rp SB [.slice a4q73 ((hat hs i).data.length) k4q73] ((hat hs i).data)) hf78
    have H := H.add (F := Rp SB [.slice a6q73 ((hat hs i).answer.length) k6q73] ((hat hs i).answer)) hf80
    have H := H.add (F := Rp (Shape.slice Shape.str) [.slice a7q73 ((hat hs i).names.length) k7q73] ((hat hs i).names)) hf81
    refine qL .seq 79 (sq 3 6) 33 b69 o70 0 (.agg #[.int .u64 ((hat hs i).client), .int .u64 ((hat hs i).seq), .I ((hat hs i).kind), .string ((hat hs i).key), .slice a4q73 ((hat hs i).data.length) k4q73, .I ((hat hs i).code), .slice a6q73 ((hat hs i).answer.length) k6q73, .slice a7q73 ((hat hs i).names.length) k7q73, .I ((hat hs i).beg), .I ((hat hs i).fin)]) (H.fc 3 rfl) ?_
    refine qB .seq 14 (sq 4 6) #[.int .u64 0, .int .u64 0, .I 0, .string (⟨#[]⟩ : ByteArray), .slice none 0 0, .I 0, .slice none 0 0, .slice none 0 0, .I 0, .I 0] 33 H ?_
    intro b84 w85 H
    refine qP 1 (sq 5 6) [(0, .slice a hs.length c), (5, .map (some b7)), (13, .I i), (14, .P b84 0), (73, .slice a hs.length c), (74, .I ((hs.length : Nat) : Int)), (75, .I i), (79, .agg #[.int .u64 ((hat hs i).client), .int .u64 ((hat hs i).seq), .I ((hat hs i).kind), .string ((hat hs i).key), .slice a4q73 ((hat hs i).data.length) k4q73, .I ((hat hs i).code), .slice a6q73 ((hat hs i).answer.length) k6q73, .slice a7q73 ((hat hs i).names.length) k7q73, .I ((hat hs i).beg), .I ((hat hs i).fin)])] ?_
    refine qW 33 b84 0 (sq 6 6) (.agg #[.int .u64 ((hat hs i).client), .int .u64 ((hat hs i).seq), .I ((hat hs i).kind), .string ((hat hs i).key), .slice a4q73 ((hat hs i).data.length) k4q73, .I ((hat hs i).code), .slice a6q73 ((hat hs i).answer.length) k6q73, .slice a7q73 ((hat hs i).names.length) k7q73, .I ((hat hs i).beg), .I ((hat hs i).fin)]) [(b84, .cells #[.int .u64 ((hat hs i).client), .int .u64 ((hat hs i).seq), .I ((hat hs i).kind), .string ((hat hs i).key), .slice a4q73 ((hat hs i).data.length) k4q73, .I ((hat hs i).code), .slice a6q73 ((hat hs i).answer.length) k6q73, .slice a7q73 ((hat hs i).names.length) k7q73, .I ((hat hs i).beg), .I ((hat hs i).fin)] 33 (0, 0)), (b7, mapO (Value.int .i64) (Value.int .i64) (atL hs.length) hs.length)] H 0 rfl rfl ?_
    intro w86 H
    refine qF 0 [(0, .slice a hs.length c), (5, .map (some b7)), (13, .I i), (14, .P b84 0), (73, .slice a hs.length c), (74, .I ((hs.length : Nat) : Int)), (75, .I i)] ?_
    refine qR 1 [.c [5, 0, 1, 0, 0, 2, 0, 0, 1, 0], .c [5, 0, 1, 0, 0, 2, 0, 0, 2], .b 3, .c [5, 0, 1, 0, 0, 3], .l [5, 0, 1, 0, 0], .b 2, .c [6]] [(0, .slice a hs.length c), (5, .map (some b7)), (13, .I i), (14, .P b84 0), (73, .slice a hs.length c), (74, .I ((hs.length : Nat) : Int)), (75, .I i)] ?_
    refine qG (sq 0 8) ?_
    refine qP 2 (sq 2 8) [(0, .slice a hs.length c), (5, .map (some b7)), (14, .P b84 0), (73, .slice a hs.length c), (74, .I ((hs.length : Nat) : Int)), (75, .I i), (81, .map (some b7)), (82, .I i)] ?_
    refine RW.mapGet (κ := .seq) (d := some 83) (r := (sq 3 8)) (T := 54) (mk := (Value.int .i64)) (vk := (Value.int .i64)) (Kt := 3) (E := 3) (z := 0) (i : Int) true (by as_aux_lemma => kernel_rfl) H 1 rfl (KeyOk.int (by as_aux_lemma => kernel_rfl)) (by as_aux_lemma => kernel_rfl) (fun w_ => zeroE_run (by as_aux_lemma => kernel_rfl) w_) ?_
    refine qF 5 [(0, .slice a hs.length c), (5, .map (some b7)), (14, .P b84 0), (16, .bool ((mfind (i : Int) (atL hs.length)).isSome)), (73, .slice a hs.length c), (74, .I ((hs.length : Nat) : Int)), (75, .I i)] ?_
    refine qR 1 [.c [5, 0, 1, 0, 0, 2, 0, 0, 2, 0], .c [5, 0, 1, 0, 0, 2, 0, 0, 3], .b 3, .c [5, 0, 1, 0, 0, 3], .l [5, 0, 1, 0, 0], .b 2, .c [6]] [(0, .slice a hs.length c), (5, .map (some b7)), (14, .P b84 0), (16, .bool ((mfind (i : Int) (atL hs.length)).isSome)), (73, .slice a hs.length c), (74, .I ((hs.length : Nat) : Int)), (75, .I i)] ?_
    refine qG (sq 0 12) ?_
    refine qP 3 (sq 3 12) [(0, .slice a hs.length c), (5, .map (some b7)), (14, .P b84 0), (73, .slice a hs.length c), (74, .I ((hs.length : Nat) : Int)), (75, .I i), (88, .bool (!((mfind (i : Int) (atL hs.length)).isSome)))] ?_
    refine RW.test (fun b_ => [(0, .slice a hs.length c), (5, .map (some b7)), (14, .P b84 0), (73, .slice a hs.length c), (74, .I ((hs.length : Nat) : Int)), (75, .I i), (88, .bool b_)]) (!((mfind (i : Int) (atL hs.length)).isSome)) (fun h87 => ?_) (fun h87 => ?_)
    ·
     replace h87 : ((mfind (i : Int) (atL hs.length)).isSome) = false := by revert h87; cases ((mfind (i : Int) (atL hs.length)).isSome) <;> simp
     exact absurd h87 (by simp [atL_yes hi1])
    ·
     replace h87 : ((mfind (i : Int) (atL hs.length)).isSome) = true := by revert h87; cases ((mfind (i : Int) (atL hs.length)).isSome) <;> simp
     refine qF 9 [(0, .slice a hs.length c), (5, .map (some b7)), (73, .slice a hs.length c), (74, .I ((hs.length : Nat) : Int)), (75, .I i), (97, .bool false)] ?_
     refine qR 3 [.c [5, 0, 1, 0, 0, 3], .l [5, 0, 1, 0, 0], .b 2, .c [6]] [(0, .slice a hs.length c), (5, .map (some b7)), (73, .slice a hs.length c), (74, .I ((hs.length : Nat) : Int)), (75, .I i)] ?_
     refine qG (sq 0 2) ?_
     refine qI .seq 98 (sq 1 2) ((i : Int) + 1) ?_
     refine qF 1 [(0, .slice a hs.length c), (5, .map (some b7)), (73, .slice a hs.length c), (74, .I ((hs.length : Nat) : Int)), (75, .I ((i : Int) + 1))] ?_
     have H := H.pick [4, 5, 6] rfl
     have H := H.frontM 1 (M' := [(b7, mapO (Value.int .i64) (Value.int .i64) (atL hs.length) hs.length), (b84, .cells #[.int .u64 ((hat hs i).client), .int .u64 ((hat hs i).seq), .I ((hat hs i).kind), .string ((hat hs i).key), .slice a4q73 ((hat hs i).data.length) k4q73, .I ((hat hs i).code), .slice a6q73 ((hat hs i).answer.length) k6q73, .slice a7q73 ((hat hs i).names.length) k7q73, .I ((hat hs i).beg), .I ((hat hs i).fin)] 33 (0, 0))]) rfl
     have H := H.drop (M' := [(b7, mapO (Value.int .i64) (Value.int .i64) (atL hs.length) hs.length)]) (W' := []) (by repeat (first | exact List.Sublist.refl _ | apply List.Sublist.cons_cons | apply List.Sublist.cons)) (by repeat (first | exact List.Sublist.refl _ | apply List.Sublist.cons_cons | apply List.Sublist.cons))
     exact WK.back (hback65 (i + 1) _ ⟨H, by omega⟩ (by first | omega | (simp only []; omega))) (by as_aux_lemma => kernel_rfl)
   ·
    refine qR 3 [.c [6, 0, 0], .c [6, 0, 1], .c [7]] [(0, .slice a hs.length c), (5, .map (some b7))] ?_
    refine qG (sq 0 2) ?_
    refine qP 1 (sq 1 2) [(0, .slice a hs.length c), (5, .map (some b7)), (99, .map (some b7))] ?_
    refine RW.mapRange (κ := .seq) (d := some 100) (r := (sq 2 2)) (T := 54) (mk := (Value.int .i64)) (vk := (Value.int .i64)) (Kt := 3) (E := 3) (by as_aux_lemma => kernel_rfl) (nofun) H 0 rfl (by as_aux_lemma => kernel_rfl) ?_
    intro q88 w89 hNw89 H
    refine qF 0 [(0, .slice a hs.length c), (5, .map (some b7)), (100, .P q88 0)] ?_
    refine qR 1 [.c [6, 0, 1, 0], .b 4, .c [7]] [(0, .slice a hs.length c), (5, .map (some b7)), (100, .P q88 0)] ?_
    refine WK.loop (α := List (Int × Int × Nat) × List (Int × Int × Nat)) (b := cd Tryd.prog 11 [6, 0, 1, 0, 0]) (by as_aux_lemma => kernel_rfl) (fun st_ => match st_ with | (dn, lf) => [(0, .slice a hs.length c), (5, .map (some b7)), (100, .P q88 0)]) (fun st_ w' => match st_ with | (dn, lf) => Hp w S [] [(q88, iterO b7 hs.length dn hs.length), (b7, mapO (Value.int .i64) (Value.int .i64) (atL hs.length) hs.length)] [] [Fm tk (mapO Value.string Value.string Lk ck), Rp (Shape.slice wopS) [.slice a hs.length c] hs, Rp (Shape.slice (Shape.int .i64)) [.slice ao ((li (List.range hs.length)).length) co] (li (List.range hs.length))] w' ∧ (dn ++ lf).Perm (atL hs.length)) (fun st_ => match st_ with | (dn, lf) => lf.length) (([] : List (Int × Int × Nat)), atL hs.length) ⟨H, by simp⟩ (rfl) ?_
    rintro ⟨dn, lf⟩ w91 ⟨H, hinv2⟩ hback90
    refine qR 1 [.c [6, 0, 1, 0, 0, 0], .c [6, 0, 1, 0, 0, 1], .l [6, 0, 1, 0, 0], .b 4, .c [7]] [(0, .slice a hs.length c), (5, .map (some b7)), (100, .P q88 0)] ?_
    refine qG (sq 0 2) ?_
    refine RW.mapNext (d := some 101) (r := (sq 1 2)) (ty := 0) (mk := (Value.int .i64)) (vk := (Value.int .i64)) (lf := lf) (by as_aux_lemma => kernel_rfl) H 1 rfl 0 rfl hinv2 (atL_ok _).borns (atL_ok _).old (Nat.le_refl _) (fun ho95 => ?_) (fun e92 lf93 hl94 => ?_)
    ·
     refine qF 1 [(0, .slice a hs.length c), (5, .map (some b7)), (100, .P q88 0), (102, .bool false)] ?_
     refine qR 5 [.c [8]] [(4, .bool true)] ?_
     refine qT (.bool true) Tryd.func11 ?_
     exact ⟨_, rfl, H.done, rfl⟩
    ·
     intro w96 H
     have H : Hp w S [] [(q88, iterO b7 hs.length (dn ++ [e92]) hs.length), (b7, mapO (Value.int .i64) (Value.int .i64) (atL hs.length) hs.length)] [] [Fm tk (mapO Value.string Value.string Lk ck), Rp (Shape.slice wopS) [.slice a hs.length c] hs, Rp (Shape.slice (Shape.int .i64)) [.slice ao ((li (List.range hs.length)).length) co] (li (List.range hs.length))] _ := H
     have he1 := atL_mem ((hinv2.mem_iff).1 (List.mem_append_right _ (hl94.mem_iff.2 (List.mem_cons_self ..))))
     refine qF 1 [(0, .slice a hs.length c), (5, .map (some b7)), (100, .P q88 0), (102, .bool true)] ?_
     refine qR 5 [.c [6, 0, 1, 0, 0, 2, 0, 0], .c [6, 0, 1, 0, 0, 2, 0, 1], .b 5, .l [6, 0, 1, 0, 0], .b 4, .c [7]] [(0, .slice a hs.length c), (5, .map (some b7)), (100, .P q88 0)] ?_
     refine qG (sq 0 5) ?_
     refine RW.mapEntry (κ := .seq) (d := some 103) (r := (sq 1 5)) (mk := (Value.int .i64)) (vk := (Value.int .i64)) (e := e92) (dn := dn) (by as_aux_lemma => kernel_rfl) H 1 rfl 0 rfl ((hinv2.mem_iff).1 (List.mem_append_right _ (hl94.mem_iff.2 (List.mem_cons_self ..)))) (atL_ok _).borns ?_
     refine qF 4 [(0, .slice a hs.length c), (5, .map (some b7)), (17, .I e92.1), (18, .I e92.2.1), (100, .P q88 0)] ?_
     refine qR 1 [.c [6, 0, 1, 0, 0, 2, 0, 1, 0], .c [6, 0, 1, 0, 0, 2, 0, 2], .b 5, .l [6, 0, 1, 0, 0], .b 4, .c [7]] [(0, .slice a hs.length c), (5, .map (some b7)), (17, .I e92.1), (18, .I e92.2.1), (100, .P q88 0)] ?_
     refine qG (sq 0 2) ?_
     refine qP 1 (sq 1 2) [(0, .slice a hs.length c), (5, .map (some b7)), (17, .I e92.1), (18, .I e92.2.1), (100, .P q88 0), (106, .map (some b7))] ?_
     refine RW.mapRange (κ := .seq) (d := some 107) (r := (sq 2 2)) (T := 54) (mk := (Value.int .i64)) (vk := (Value.int .i64)) (Kt := 3) (E := 3) (by as_aux_lemma => kernel_rfl) (nofun) H 1 rfl (by as_aux_lemma => kernel_rfl) ?_
     intro q97 w98 hNw98 H
     refine qF 0 [(0, .slice a hs.length c), (5, .map (some b7)), (17, .I e92.1), (18, .I e92.2.1), (100, .P q88 0), (107, .P q97 0)] ?_
     refine qR 1 [.c [6, 0, 1, 0, 0, 2, 0, 2, 0], .b 6, .b 5, .l [6, 0, 1, 0, 0], .b 4, .c [7]] [(0, .slice a hs.length c), (5, .map (some b7)), (17, .I e92.1), (18, .I e92.2.1), (100, .P q88 0), (107, .P q97 0)] ?_
     refine WK.loop (α := List (Int × Int × Nat) × List (Int × Int × Nat)) (b := cd Tryd.prog 11 [6, 0, 1, 0, 0, 2, 0, 2, 0, 0]) (by as_aux_lemma => kernel_rfl) (fun st_ => match st_ with | (dn3, lf3) => [(0, .slice a hs.length c), (5, .map (some b7)), (17, .I e92.1), (18, .I e92.2.1), (100, .P q88 0), (107, .P q97 0)]) (fun st_ w' => match st_ with | (dn3, lf3) => Hp w S [] [(q97, iterO b7 hs.length dn3 hs.length), (q88, iterO b7 hs.length (dn ++ [e92]) hs.length), (b7, mapO (Value.int .i64) (Value.int .i64) (atL hs.length) hs.length)] [] [Fm tk (mapO Value.string Value.string Lk ck), Rp (Shape.slice wopS) [.slice a hs.length c] hs, Rp (Shape.slice (Shape.int .i64)) [.slice ao ((li (List.range hs.length)).length) co] (li (List.range hs.length))] w' ∧ (dn3 ++ lf3).Perm (atL hs.length)) (fun st_ => match st_ with | (dn3, lf3) => lf3.length) (([] : List (Int × Int × Nat)), atL hs.length) ⟨H, by simp⟩ (rfl) ?_
     rintro ⟨dn3, lf3⟩ w100 ⟨H, hinv3⟩ hback99
     refine qR 1 [.c [6, 0, 1, 0, 0, 2, 0, 2, 0, 0, 0], .c [6, 0, 1, 0, 0, 2, 0, 2, 0, 0, 1], .l [6, 0, 1, 0, 0, 2, 0, 2, 0, 0], .b 6, .b 5, .l [6, 0, 1, 0, 0], .b 4, .c [7]] [(0, .slice a hs.length c), (5, .map (some b7)), (17, .I e92.1), (18, .I e92.2.1), (100, .P q88 0), (107, .P q97 0)] ?_
     refine qG (sq 0 2) ?_
     refine RW.mapNext (d := some 108) (r := (sq 1 2)) (ty := 0) (mk := (Value.int .i64)) (vk := (Value.int .i64)) (lf := lf3) (by as_aux_lemma => kernel_rfl) H 2 rfl 0 rfl hinv3 (atL_ok _).borns (atL_ok _).old (Nat.le_refl _) (fun ho104 => ?_) (fun e101 lf102 hl103 => ?_)
     ·
      refine qF 1 [(0, .slice a hs.length c), (5, .map (some b7)), (17, .I e92.1), (18, .I e92.2.1), (100, .P q88 0), (107, .P q97 0), (109, .bool false)] ?_
      refine qR 4 [.l [6, 0, 1, 0, 0], .b 4, .c [7]] [(0, .slice a hs.length c), (5, .map (some b7)), (100, .P q88 0)] ?_
      have H := H.frontM 2 (M' := [(b7, mapO (Value.int .i64) (Value.int .i64) (atL hs.length) hs.length), (q97, iterO b7 hs.length dn3 hs.length), (q88, iterO b7 hs.length (dn ++ [e92]) hs.length)]) rfl
      have H := H.frontM 2 (M' := [(q88, iterO b7 hs.length (dn ++ [e92]) hs.length), (b7, mapO (Value.int .i64) (Value.int .i64) (atL hs.length) hs.length), (q97, iterO b7 hs.length dn3 hs.length)]) rfl
      have H := H.drop (M' := [(q88, iterO b7 hs.length (dn ++ [e92]) hs.length), (b7, mapO (Value.int .i64) (Value.int .i64) (atL hs.length) hs.length)]) (W' := []) (by repeat (first | exact List.Sublist.refl _ | apply List.Sublist.cons_cons | apply List.Sublist.cons)) (by repeat (first | exact List.Sublist.refl _ | apply List.Sublist.cons_cons | apply List.Sublist.cons))
      exact WK.back (hback90 (dn ++ [e92], lf93) _ ⟨H, by rw [List.append_assoc]; exact ((List.Perm.append_left _ (by assumption)).symm.trans hinv2)⟩ (by have := List.Perm.length_eq (by assumption : lf.Perm _); simp only [List.length_cons] at this; simp only []; omega)) (by as_aux_lemma => kernel_rfl)
     ·
      intro w105 H
      have H : Hp w S [] [(q97, iterO b7 hs.length (dn3 ++ [e101]) hs.length), (q88, iterO b7 hs.length (dn ++ [e92]) hs.length), (b7, mapO (Value.int .i64) (Value.int .i64) (atL hs.length) hs.length)] [] [Fm tk (mapO Value.string Value.string Lk ck), Rp (Shape.slice wopS) [.slice a hs.length c] hs, Rp (Shape.slice (Shape.int .i64)) [.slice ao ((li (List.range hs.length)).length) co] (li (List.range hs.length))] _ := H
      have he2 := atL_mem ((hinv3.mem_iff).1 (List.mem_append_right _ (hl103.mem_iff.2 (List.mem_cons_self ..))))
      refine qF 1 [(0, .slice a hs.length c), (5, .map (some b7)), (17, .I e92.1), (18, .I e92.2.1), (100, .P q88 0), (107, .P q97 0), (109, .bool true)] ?_
      refine qR 5 [.c [6, 0, 1, 0, 0, 2, 0, 2, 0, 0, 2, 0, 0], .c [6, 0, 1, 0, 0, 2, 0, 2, 0, 0, 2, 0, 1], .b 7, .l [6, 0, 1, 0, 0, 2, 0, 2, 0, 0], .b 6, .b 5, .l [6, 0, 1, 0, 0], .b 4, .c [7]] [(0, .slice a hs.length c), (5, .map (some b7)), (17, .I e92.1), (18, .I e92.2.1), (100, .P q88 0), (107, .P q97 0)] ?_
      refine qG (sq 0 5) ?_
      refine RW.mapEntry (κ := .seq) (d := some 110) (r := (sq 1 5)) (mk := (Value.int .i64)) (vk := (Value.int .i64)) (e := e101) (dn := dn3) (by as_aux_lemma => kernel_rfl) H 2 rfl 0 rfl ((hinv3.mem_iff).1 (List.mem_append_right _ (hl103.mem_iff.2 (List.mem_cons_self ..)))) (atL_ok _).borns ?_
      refine qF 4 [(0, .slice a hs.length c), (5, .map (some b7)), (17, .I e92.1), (18, .I e92.2.1), (19, .I e101.1), (20, .I e101.2.1), (100, .P q88 0), (107, .P q97 0)] ?_
      refine qR 1 [.c [6, 0, 1, 0, 0, 2, 0, 2, 0, 0, 2, 0, 1, 0], .c [6, 0, 1, 0, 0, 2, 0, 2, 0, 0, 2, 0, 2], .b 7, .l [6, 0, 1, 0, 0, 2, 0, 2, 0, 0], .b 6, .b 5, .l [6, 0, 1, 0, 0], .b 4, .c [7]] [(0, .slice a hs.length c), (5, .map (some b7)), (17, .I e92.1), (18, .I e92.2.1), (19, .I e101.1), (20, .I e101.2.1), (100, .P q88 0), (107, .P q97 0)] ?_
      refine WK.draw1 24 [(0, .qui), (1, .qui), (2, .qui), (3, .qui), (4, .chn), (5, .qui), (6, .qui), (7, .qui), (8, .qui), (9, .qui), (10, .qui), (11, .qui), (12, .qui), (13, .qui), (14, .qui), (15, .qui), (16, .qui), (17, .qui), (18, .qui), (19, .qui), (20, .qui), (21, .qui), (22, .qui), (23, .qui)] [(0, .qui), (1, .qui), (2, .qui), (3, .qui), (4, .chn), (5, .qui), (6, .qui), (7, .qui), (8, .qui), (9, .qui), (10, .qui), (11, .qui), (12, .qui), (13, .qui), (14, .qui), (15, .qui), (16, .qui), (17, .qui), (18, .qui), (19, .qui), (20, .qui), (21, .qui), (22, .qui), (23, .qui)] Tryd_mixed (by as_aux_lemma => kernel_rfl) (by as_aux_lemma => kernel_rfl) (by as_aux_lemma => kernel_rfl) ?_
      have H := H.draw
      generalize ({ w105 with drawn := w105.drawn + 1 } : World) = w106 at H ⊢
      refine qP 2 [(2, .qui), (3, .qui), (4, .chn), (5, .qui), (6, .qui), (7, .qui), (8, .qui), (9, .qui), (10, .qui), (11, .qui), (12, .qui), (13, .qui), (14, .qui), (15, .qui), (16, .qui), (17, .qui), (18, .qui), (19, .qui), (20, .qui), (21, .qui), (22, .qui), (23, .qui)] [(0, .slice a hs.length c), (5, .map (some b7)), (17, .I e92.1), (18, .I e92.2.1), (19, .I e101.1), (20, .I e101.2.1), (100, .P q88 0), (107, .P q97 0), (113, .slice a hs.length c), (114, .I e92.1)] ?_
      have hx107 : e92.2.2 < hs.length := by omega
      refine qX .qui 115 [(3, .qui), (4, .chn), (5, .qui), (6, .qui), (7, .qui), (8, .qui), (9, .qui), (10, .qui), (11, .qui), (12, .qui), (13, .qui), (14, .qui), (15, .qui), (16, .qui), (17, .qui), (18, .qui), (19, .qui), (20, .qui), (21, .qui), (22, .qui), (23, .qui)] 22 33 e92.1 wopS (hat hs e92.2.2) H 1 rfl e92.2.2 (by omega) (hat_some he1.2.2) ?_
      intro b108 o109 es110 hr111 H
      obtain ⟨a4q112, k4q112, a6q112, k6q112, a7q112, k7q112, rfl, hf113, hf114, hf115, hf116, hf117, hf118, hf119, hf120, hf121, hf122⟩ := wop_open hr111
      have H := H.add (F := Rp SB [.slice a4q112 ((hat hs e92.2.2).data.length) k4q112] ((hat hs e92.2.2).data)) hf117
      have H := H.add (F := Rp SB [.slice a6q112 ((hat hs e92.2.2).answer.length) k6q112] ((hat hs e92.2.2).answer)) hf119
      have H := H.add (F := Rp (Shape.slice Shape.str) [.slice a7q112 ((hat hs e92.2.2).names.length) k7q112] ((hat hs e92.2.2).names)) hf120
      refine qL .qui 116 [(4, .chn), (5, .qui), (6, .qui), (7, .qui), (8, .qui), (9, .qui), (10, .qui), (11, .qui), (12, .qui), (13, .qui), (14, .qui), (15, .qui), (16, .qui), (17, .qui), (18, .qui), (19, .qui), (20, .qui), (21, .qui), (22, .qui), (23, .qui)] 33 b108 o109 0 (.agg #[.int .u64 ((hat hs e92.2.2).client), .int .u64 ((hat hs e92.2.2).seq), .I ((hat hs e92.2.2).kind), .string ((hat hs e92.2.2).key), .slice a4q112 ((hat hs e92.2.2).data.length) k4q112, .I ((hat hs e92.2.2).code), .slice a6q112 ((hat hs e92.2.2).answer.length) k6q112, .slice a7q112 ((hat hs e92.2.2).names.length) k7q112, .I ((hat hs e92.2.2).beg), .I ((hat hs e92.2.2).fin)]) (H.fc 3 rfl) ?_
      refine qK .chn (some 117) (qs [5, 6, 7, 8, 9, 10, 11, 12, 13, 14, 15, 16, 17, 18, 19, 20, 21, 22, 23]) 17 #[.agg #[.int .u64 ((hat hs e92.2.2).client), .int .u64 ((hat hs e92.2.2).seq), .I ((hat hs e92.2.2).kind), .string ((hat hs e92.2.2).key), .slice a4q112 ((hat hs e92.2.2).data.length) k4q112, .I ((hat hs e92.2.2).code), .slice a6q112 ((hat hs e92.2.2).answer.length) k6q112, .slice a7q112 ((hat hs e92.2.2).names.length) k7q112, .I ((hat hs e92.2.2).beg), .I ((hat hs e92.2.2).fin)]] (open_spec (x := (hat hs e92.2.2)) (wop_mk (l0 := [.int .u64 ((hat hs e92.2.2).client)]) (y0 := (hat hs e92.2.2).client) (l1 := [.int .u64 ((hat hs e92.2.2).seq)]) (y1 := (hat hs e92.2.2).seq) (l2 := [.I ((hat hs e92.2.2).kind)]) (y2 := (hat hs e92.2.2).kind) (l3 := [.string ((hat hs e92.2.2).key)]) (y3 := (hat hs e92.2.2).key) (l4 := [.slice a4q112 ((hat hs e92.2.2).data.length) k4q112]) (y4 := (hat hs e92.2.2).data) (l5 := [.I ((hat hs e92.2.2).code)]) (y5 := (hat hs e92.2.2).code) (l6 := [.slice a6q112 ((hat hs e92.2.2).answer.length) k6q112]) (y6 := (hat hs e92.2.2).answer) (l7 := [.slice a7q112 ((hat hs e92.2.2).names.length) k7q112]) (y7 := (hat hs e92.2.2).names) (l8 := [.I ((hat hs e92.2.2).beg)]) (y8 := (hat hs e92.2.2).beg) (l9 := [.I ((hat hs e92.2.2).fin)]) (y9 := (hat hs e92.2.2).fin) u64a u64a i64a ⟨rfl, by first | assumption | (simp [maxLen]; done) | decide⟩ (H.rp 2 rfl) i64a (H.rp 1 rfl) (H.rp 0 rfl) i64a i64a)) ?_
      rintro _ w123 hE124 rfl
      have H := H.ext hE124
      refine qP 2 (qs [7, 8, 9, 10, 11, 12, 13, 14, 15, 16, 17, 18, 19, 20, 21, 22, 23]) [(0, .slice a hs.length c), (5, .map (some b7)), (17, .I e92.1), (18, .I e92.2.1), (19, .I e101.1), (20, .I e101.2.1), (100, .P q88 0), (107, .P q97 0), (119, .bool (!(opn (hat hs e92.2.2))))] ?_
      refine RW.test (fun b_ => [(0, .slice a hs.length c), (5, .map (some b7)), (17, .I e92.1), (18, .I e92.2.1), (19, .I e101.1), (20, .I e101.2.1), (100, .P q88 0), (107, .P q97 0), (119, .bool b_)]) (!(opn (hat hs e92.2.2))) (fun h125 => ?_) (fun h125 => ?_)
      ·
       replace h125 : (opn (hat hs e92.2.2)) = false := by revert h125; cases (opn (hat hs e92.2.2)) <;> simp
       have hop := h125
       refine qP 2 (qs [9, 10, 11, 12, 13, 14, 15, 16, 17, 18, 19, 20, 21, 22, 23]) [(0, .slice a hs.length c), (5, .map (some b7)), (17, .I e92.1), (18, .I e92.2.1), (19, .I e101.1), (20, .I e101.2.1), (100, .P q88 0), (107, .P q97 0), (119, .bool true), (120, .slice a hs.length c), (121, .I e92.1)] ?_
       have hx126 : e92.2.2 < hs.length := by omega
       refine qX .qui 122 (qs [10, 11, 12, 13, 14, 15, 16, 17, 18, 19, 20, 21, 22, 23]) 22 33 e92.1 wopS (hat hs e92.2.2) H 5 rfl e92.2.2 (by omega) (hat_some he1.2.2) ?_
       intro b127 o128 es129 hr130 H
       obtain ⟨a4q131, k4q131, a6q131, k6q131, a7q131, k7q131, rfl, hf132, hf133, hf134, hf135, hf136, hf137, hf138, hf139, hf140, hf141⟩ := wop_open hr130
       have H := H.add (F := Rp SB [.slice a4q131 ((hat hs e92.2.2).data.length) k4q131] ((hat hs e92.2.2).data)) hf136
       have H := H.add (F := Rp SB [.slice a6q131 ((hat hs e92.2.2).answer.length) k6q131] ((hat hs e92.2.2).answer)) hf138
       have H := H.add (F := Rp (Shape.slice Shape.str) [.slice a7q131 ((hat hs e92.2.2).names.length) k7q131] ((hat hs e92.2.2).names)) hf139
       refine qP 1 (qs [11, 12, 13, 14, 15, 16, 17, 18, 19, 20, 21, 22, 23]) [(0, .slice a hs.length c), (5, .map (some b7)), (17, .I e92.1), (18, .I e92.2.1), (19, .I e101.1), (20, .I e101.2.1), (100, .P q88 0), (107, .P q97 0), (119, .bool true), (123, .pointer (some ⟨b127, o128 + 9, none⟩))] ?_
       refine qL .qui 124 (qs [12, 13, 14, 15, 16, 17, 18, 19, 20, 21, 22, 23]) 3 b127 (o128 + 9) 9 (.I ((hat hs e92.2.2).fin)) (H.fc 3 rfl) ?_
       refine qP 2 (qs [14, 15, 16, 17, 18, 19, 20, 21, 22, 23]) [(0, .slice a hs.length c), (5, .map (some b7)), (17, .I e92.1), (18, .I e92.2.1), (20, .I e101.2.1), (100, .P q88 0), (107, .P q97 0), (119, .bool true), (124, .I ((hat hs e92.2.2).fin)), (125, .slice a hs.length c), (126, .I e101.1)] ?_
       have hx142 : e101.2.2 < hs.length := by omega
       refine qX .qui 127 (qs [15, 16, 17, 18, 19, 20, 21, 22, 23]) 22 33 e101.1 wopS (hat hs e101.2.2) H 9 rfl e101.2.2 (by omega) (hat_some he2.2.2) ?_
       intro b143 o144 es145 hr146 H
       obtain ⟨a4q147, k4q147, a6q147, k6q147, a7q147, k7q147, rfl, hf148, hf149, hf150, hf151, hf152, hf153, hf154, hf155, hf156, hf157⟩ := wop_open hr146
       have H := H.add (F := Rp SB [.slice a4q147 ((hat hs e101.2.2).data.length) k4q147] ((hat hs e101.2.2).data)) hf152
       have H := H.add (F := Rp SB [.slice a6q147 ((hat hs e101.2.2).answer.length) k6q147] ((hat hs e101.2.2).answer)) hf154
       have H := H.add (F := Rp (Shape.slice Shape.str) [.slice a7q147 ((hat hs e101.2.2).names.length) k7q147] ((hat hs e101.2.2).names)) hf155
       refine qP 1 (qs [16, 17, 18, 19, 20, 21, 22, 23]) [(0, .slice a hs.length c), (5, .map (some b7)), (17, .I e92.1), (18, .I e92.2.1), (20, .I e101.2.1), (100, .P q88 0), (107, .P q97 0), (119, .bool true), (124, .I ((hat hs e92.2.2).fin)), (128, .pointer (some ⟨b143, o144 + 8, none⟩))] ?_
       refine qL .qui 129 (qs [17, 18, 19, 20, 21, 22, 23]) 3 b143 (o144 + 8) 8 (.I ((hat hs e101.2.2).beg)) (H.fc 3 rfl) ?_
       refine qP 3 (qs [20, 21, 22, 23]) [(0, .slice a hs.length c), (5, .map (some b7)), (17, .I e92.1), (18, .I e92.2.1), (20, .I e101.2.1), (100, .P q88 0), (107, .P q97 0), (132, .bool (decide (((hat hs e92.2.2).fin : Int) < (hat hs e101.2.2).beg)))] ?_
       refine tD (fun b_ => [(0, .slice a hs.length c), (5, .map (some b7)), (17, .I e92.1), (18, .I e92.2.1), (20, .I e101.2.1), (100, .P q88 0), (107, .P q97 0), (132, .bool b_)]) (((hat hs e92.2.2).fin : Int) < (hat hs e101.2.2).beg) (fun h158 => ?_) (fun h158 => ?_)
       ·
        have hfb := h158
        refine qF 4 [(0, .slice a hs.length c), (5, .map (some b7)), (17, .I e92.1), (18, .I e92.2.1), (100, .P q88 0), (107, .P q97 0), (136, .bool (decide ((e92.2.1 : Int) > e101.2.1)))] ?_
        refine qD ((e92.2.1 : Int) > e101.2.1) (fun h159 => ?_) (fun h159 => ?_)
        ·
         exact absurd (right_no hr he1.2.2 he2.2.2 (by simpa using hop) (by simpa using hfb)) (by omega)
        ·
         refine qR 2 [.l [6, 0, 1, 0, 0, 2, 0, 2, 0, 0], .b 6, .b 5, .l [6, 0, 1, 0, 0], .b 4, .c [7]] [(0, .slice a hs.length c), (5, .map (some b7)), (17, .I e92.1), (18, .I e92.2.1), (100, .P q88 0), (107, .P q97 0)] ?_
         have H := H.pick [12, 13, 14] rfl
         exact WK.back (hback99 (dn3 ++ [e101], lf102) _ ⟨H, by rw [List.append_assoc]; exact ((List.Perm.append_left _ (by assumption)).symm.trans hinv3)⟩ (by have := List.Perm.length_eq (by assumption : lf3.Perm _); simp only [List.length_cons] at this; simp only []; omega)) (by as_aux_lemma => kernel_rfl)
       ·
        refine qF 4 [(0, .slice a hs.length c), (5, .map (some b7)), (17, .I e92.1), (18, .I e92.2.1), (100, .P q88 0), (107, .P q97 0), (136, .bool false)] ?_
        refine qR 3 [.l [6, 0, 1, 0, 0, 2, 0, 2, 0, 0], .b 6, .b 5, .l [6, 0, 1, 0, 0], .b 4, .c [7]] [(0, .slice a hs.length c), (5, .map (some b7)), (17, .I e92.1), (18, .I e92.2.1), (100, .P q88 0), (107, .P q97 0)] ?_
        have H := H.pick [12, 13, 14] rfl
        exact WK.back (hback99 (dn3 ++ [e101], lf102) _ ⟨H, by rw [List.append_assoc]; exact ((List.Perm.append_left _ (by assumption)).symm.trans hinv3)⟩ (by have := List.Perm.length_eq (by assumption : lf3.Perm _); simp only [List.length_cons] at this; simp only []; omega)) (by as_aux_lemma => kernel_rfl)
      ·
       replace h125 : (opn (hat hs e92.2.2)) = true := by revert h125; cases (opn (hat hs e92.2.2)) <;> simp
       refine qF 17 [(0, .slice a hs.length c), (5, .map (some b7)), (17, .I e92.1), (18, .I e92.2.1), (100, .P q88 0), (107, .P q97 0), (136, .bool false)] ?_
       refine qR 3 [.l [6, 0, 1, 0, 0, 2, 0, 2, 0, 0], .b 6, .b 5, .l [6, 0, 1, 0, 0], .b 4, .c [7]] [(0, .slice a hs.length c), (5, .map (some b7)), (17, .I e92.1), (18, .I e92.2.1), (100, .P q88 0), (107, .P q97 0)] ?_
       have H := H.pick [4, 5, 6] rfl
       exact WK.back (hback99 (dn3 ++ [e101], lf102) _ ⟨H, by rw [List.append_assoc]; exact ((List.Perm.append_left _ (by assumption)).symm.trans hinv3)⟩ (by have := List.Perm.length_eq (by assumption : lf3.Perm _); simp only [List.length_cons] at this; simp only []; omega)) (by as_aux_lemma => kernel_rfl)
end Go.Proofs.YtcodkepdolmmbaaDoor
