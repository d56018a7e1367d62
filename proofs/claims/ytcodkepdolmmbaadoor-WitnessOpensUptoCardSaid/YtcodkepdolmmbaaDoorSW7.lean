import Derived.Test.YtcodkepdolmmbaaDoorSW6
namespace Go.Proofs.YtcodkepdolmmbaaDoor
open Go.BX
theorem from_all : ∀ n, FromOk n := fun n => by
 induction n using Nat.strongRecOn with
 | _ n ih =>
  intro S w O hs a c lf al cl bh bT bO bF tm tb ct tc co L Sx TL od ao hn hlf hhl hsz hT hzs hzl stk hstk hmo hod H0
  subst hn
  exact from_step (fun m hm => ih m hm) hlf hhl hsz hT hzs hzl stk hstk hmo hod H0
def nidx (hs : List Wop) (k : Nat) : List Nat := (List.range k).filter fun i => !idl (hat hs i)
theorem nidx_yes {hs : List Wop} {k : Nat} (h : idl (hat hs k) = false) : nidx hs (k + 1) = nidx hs k ++ [k] := by
 unfold nidx
 rw [List.range_succ, List.filter_append]
 simp [h]
theorem nidx_no {hs : List Wop} {k : Nat} (h : idl (hat hs k) = true) : nidx hs (k + 1) = nidx hs k := by
 unfold nidx
 rw [List.range_succ, List.filter_append]
 simp [h]
theorem li_snoc (l : List Nat) (k : Nat) : li (l ++ [k]) = li l ++ [(k : Int)] := by
 unfold li
 rw [List.map_append]; rfl
theorem nidx_lt {hs : List Wop} {k i : Nat} (h : i ∈ nidx hs k) : i < k := List.mem_range.1 (List.mem_filter.1 h).1
theorem nidx_len (hs : List Wop) (k : Nat) : (nidx hs k).length ≤ k := by
 have := List.length_filter_le (fun i => !idl (hat hs i)) (List.range k)
 rwa [List.length_range] at this
theorem hat_range (hs : List Wop) : (List.range hs.length).map (hat hs) = hs := by
 apply List.ext_getElem
 · simp
 · intro i h1 h2
   rw [List.getElem_map, List.getElem_range, hat_eq h2]
theorem nidx_left (hs : List Wop) : (nidx hs hs.length).map (hat hs) = left hs := by
 have : left hs = left ((List.range hs.length).map (hat hs)) := by rw [hat_range]
 rw [this]
 unfold nidx left
 rw [List.filter_map]; rfl
set_option maxHeartbeats 4000000 in
theorem search_spec {S : Nat → Prop} {w : World} {hs : List Wop} {a : Option Addr} {c : Nat} (h : (Shape.slice wopS).rep S w [.slice a hs.length c] hs) (hhl : hs.length ≤ 14) (hsz : szH hs) (hq : (Fz tabsQ).p S w) :
 Calls Tryd.prog 14 #[.slice a hs.length c] w (Ret fun v w' => Ext w w' ∧ ∃ (lv : Value) (b : Bool), v = .tuple #[lv, .bool b] ∧ (b = true ↔ Ex (left hs) [])) := by
 have hlen := Shape.slice_len h
 refine qS (fn := Tryd.f14) (n := 33) (σ := [(0, .slice a hs.length c)]) Tryd.func14 ?_
 have H := Hp.startF (w := w) (S := S) (G := [Rp (Shape.slice wopS) [.slice a hs.length c] hs, Fz tabsQ]) (.rp h (.cons hq .nil))
 refine qR 1 [.c [0], .c [1]] [(0, .slice a hs.length c)] ?_
 refine qG (sq 0 3) ?_
 refine qB .seq 1 (sq 1 3) #[.slice a hs.length c] 22 H ?_
 intro b1 w2 H
 refine qF 2 [(1, .P b1 0)] ?_
 refine qR 1 [.c [1, 0], .c [2]] [(1, .P b1 0)] ?_
 refine qG (sq 0 3) ?_
 refine RW.new (κ := .seq) (d := some 10) (r := (sq 1 3)) (o := mapO Value.string (Value.int .i64) ([] : List (ByteArray × Int × Nat)) 0) (v := fun b_ => .map (some b_)) (fun _ => by as_aux_lemma => kernel_rfl) (nofun) H ?_
 intro b3 w4 H
 refine qB .seq 4 (sq 2 3) #[.map none] 68 H ?_
 intro b5 w6 H
 refine qW 68 b5 0 (sq 3 3) (.map (some b3)) [(b5, .cells #[.map (some b3)] 68 (0, 0)), (b3, mapO Value.string (Value.int .i64) ([] : List (ByteArray × Int × Nat)) 0), (b1, .cells #[.slice a hs.length c] 22 (0, 0))] H 0 rfl rfl ?_
 intro w7 H
 refine qF 0 [(1, .P b1 0), (4, .P b5 0)] ?_
 refine qR 1 [.c [2, 0], .c [3]] [(1, .P b1 0), (4, .P b5 0)] ?_
 refine qG (sq 0 1) ?_
 refine qB .seq 5 (sq 1 1) #[.slice none 0 0] 36 H ?_
 intro b8 w9 H
 refine qF 0 [(1, .P b1 0), (4, .P b5 0), (5, .P b8 0)] ?_
 refine qR 1 [.c [3, 0], .c [4]] [(1, .P b1 0), (4, .P b5 0), (5, .P b8 0)] ?_
 refine qG (sq 0 1) ?_
 refine qB .seq 6 (sq 1 1) #[.nilFunc] 69 H ?_
 intro b10 w11 H
 refine qF 0 [(1, .P b1 0), (4, .P b5 0), (5, .P b8 0), (6, .P b10 0)] ?_
 refine qR 1 [.c [4, 0], .c [5]] [(1, .P b1 0), (4, .P b5 0), (5, .P b8 0), (6, .P b10 0)] ?_
 refine qG (sq 0 2) ?_
 refine qP 1 (sq 1 2) [(1, .P b1 0), (5, .P b8 0), (6, .P b10 0), (11, .func (.func 24) #[] #[.P b1 0, .P b5 0, .P b8 0, .P b10 0])] ?_
 refine qW 69 b10 0 (sq 2 2) (.func (.func 24) #[] #[.P b1 0, .P b5 0, .P b8 0, .P b10 0]) [(b10, .cells #[.func (.func 24) #[] #[.P b1 0, .P b5 0, .P b8 0, .P b10 0]] 69 (0, 0)), (b8, .cells #[.slice none 0 0] 36 (0, 0)), (b5, .cells #[.map (some b3)] 68 (0, 0)), (b3, mapO Value.string (Value.int .i64) ([] : List (ByteArray × Int × Nat)) 0), (b1, .cells #[.slice a hs.length c] 22 (0, 0))] H 0 rfl rfl ?_
 intro w12 H
 refine qF 0 [(1, .P b1 0), (5, .P b8 0), (6, .P b10 0)] ?_
 refine qR 4 [.c [6, 0, 0], .c [6, 0, 1], .c [7]] [(1, .P b1 0), (5, .P b8 0), (6, .P b10 0), (7, .slice none 0 0)] ?_
 refine qG (sq 0 3) ?_
 refine qL .seq 12 (sq 1 3) 22 b1 0 0 (.slice a hs.length c) (H.cells 4 rfl) ?_
 refine qF 2 [(5, .P b8 0), (6, .P b10 0), (7, .slice none 0 0), (12, .slice a hs.length c), (13, .I ((hs.length : Nat) : Int)), (14, .I 0)] ?_
 refine qR 1 [.c [6, 0, 1, 0], .b 0, .c [7]] [(5, .P b8 0), (6, .P b10 0), (7, .slice none 0 0), (12, .slice a hs.length c), (13, .I ((hs.length : Nat) : Int)), (14, .I 0)] ?_
 have H := H.ownNil (Shape.int .i64) 3
 refine WK.loop (α := Nat × Option Addr × Nat) (b := cd Tryd.prog 14 [6, 0, 1, 0, 0]) (by as_aux_lemma => kernel_rfl) (fun st_ => match st_ with | (k, a9, c9) => [(5, .P b8 0), (6, .P b10 0), (7, .slice a9 ((li (nidx hs k)).length) c9), (12, .slice a hs.length c), (13, .I ((hs.length : Nat) : Int)), (14, .I k)]) (fun st_ w' => match st_ with | (k, a9, c9) => Hp w S [] [(b10, .cells #[.func (.func 24) #[] #[.P b1 0, .P b5 0, .P b8 0, .P b10 0]] 69 (0, 0)), (b8, .cells #[.slice none 0 0] 36 (0, 0)), (b5, .cells #[.map (some b3)] 68 (0, 0)), (b3, mapO Value.string (Value.int .i64) ([] : List (ByteArray × Int × Nat)) 0), (b1, .cells #[.slice a hs.length c] 22 (0, 0))] [⟨(Shape.int .i64), 3, .slice a9 ((li (nidx hs k)).length) c9, li (nidx hs k)⟩] [Rp (Shape.slice wopS) [.slice a hs.length c] hs, Fz tabsQ] w' ∧ k ≤ hs.length) (fun st_ => match st_ with | (k, a9, c9) => hs.length - k) (0, none, 0) ⟨H, Nat.zero_le _⟩ (rfl) ?_
 rintro ⟨k, a9, c9⟩ w14 ⟨H, hinv0⟩ hback13
 refine qR 3 [.c [6, 0, 1, 0, 0, 1, 0], .c [6, 0, 1, 0, 0, 2], .l [6, 0, 1, 0, 0], .b 0, .c [7]] [(5, .P b8 0), (6, .P b10 0), (7, .slice a9 ((li (nidx hs k)).length) c9), (12, .slice a hs.length c), (13, .I ((hs.length : Nat) : Int)), (14, .I k), (15, .bool (decide (((k : Int) : Int) < ((hs.length : Nat) : Int))))] ?_
 refine qD (((k : Int) : Int) < ((hs.length : Nat) : Int)) (fun h15 => ?_) (fun h15 => ?_)
 ·
  have hk1 : k < hs.length := by omega
  refine qR 4 [.c [6, 0, 1, 0, 0, 2, 0, 0, 0], .c [6, 0, 1, 0, 0, 2, 0, 0, 1], .b 1, .c [6, 0, 1, 0, 0, 3], .l [6, 0, 1, 0, 0], .b 0, .c [7]] [(5, .P b8 0), (6, .P b10 0), (7, .slice a9 ((li (nidx hs k)).length) c9), (12, .slice a hs.length c), (13, .I ((hs.length : Nat) : Int)), (14, .I k)] ?_
  refine qG (sq 0 6) ?_
  refine qP 1 (sq 1 6) [(5, .P b8 0), (6, .P b10 0), (7, .slice a9 ((li (nidx hs k)).length) c9), (12, .slice a hs.length c), (13, .I ((hs.length : Nat) : Int)), (14, .I k), (16, .I k)] ?_
  have hx16 : k < hs.length := by omega
  refine qX .seq 17 (sq 2 6) 22 33 (k : Int) wopS (hat hs k) H 0 rfl k (by omega) (hat_some hk1) ?_
  intro b17 o18 es19 hr20 H
  obtain ⟨a4q21, k4q21, a6q21, k6q21, a7q21, k7q21, rfl, hf22, hf23, hf24, hf25, hf26, hf27, hf28, hf29, hf30, hf31⟩ := wop_open hr20
  have H := H.add (F := Rp SB [.slice a4q21 ((hat hs k).data.length) k4q21] ((hat hs k).data)) hf26
  have H := H.add (F := Rp SB [.slice a6q21 ((hat hs k).answer.length) k6q21] ((hat hs k).answer)) hf28
  have H := H.add (F := Rp (Shape.slice Shape.str) [.slice a7q21 ((hat hs k).names.length) k7q21] ((hat hs k).names)) hf29
  refine qL .seq 18 (sq 3 6) 33 b17 o18 0 (.agg #[.int .u64 ((hat hs k).client), .int .u64 ((hat hs k).seq), .I ((hat hs k).kind), .string ((hat hs k).key), .slice a4q21 ((hat hs k).data.length) k4q21, .I ((hat hs k).code), .slice a6q21 ((hat hs k).answer.length) k6q21, .slice a7q21 ((hat hs k).names.length) k7q21, .I ((hat hs k).beg), .I ((hat hs k).fin)]) (H.fc 3 rfl) ?_
  refine qB .seq 9 (sq 4 6) #[.int .u64 0, .int .u64 0, .I 0, .string (⟨#[]⟩ : ByteArray), .slice none 0 0, .I 0, .slice none 0 0, .slice none 0 0, .I 0, .I 0] 33 H ?_
  intro b32 w33 H
  refine qP 1 (sq 5 6) [(5, .P b8 0), (6, .P b10 0), (7, .slice a9 ((li (nidx hs k)).length) c9), (8, .I k), (9, .P b32 0), (12, .slice a hs.length c), (13, .I ((hs.length : Nat) : Int)), (14, .I k), (18, .agg #[.int .u64 ((hat hs k).client), .int .u64 ((hat hs k).seq), .I ((hat hs k).kind), .string ((hat hs k).key), .slice a4q21 ((hat hs k).data.length) k4q21, .I ((hat hs k).code), .slice a6q21 ((hat hs k).answer.length) k6q21, .slice a7q21 ((hat hs k).names.length) k7q21, .I ((hat hs k).beg), .I ((hat hs k).fin)])] ?_
  refine qW 33 b32 0 (sq 6 6) (.agg #[.int .u64 ((hat hs k).client), .int .u64 ((hat hs k).seq), .I ((hat hs k).kind), .string ((hat hs k).key), .slice a4q21 ((hat hs k).data.length) k4q21, .I ((hat hs k).code), .slice a6q21 ((hat hs k).answer.length) k6q21, .slice a7q21 ((hat hs k).names.length) k7q21, .I ((hat hs k).beg), .I ((hat hs k).fin)]) [(b32, .cells #[.int .u64 ((hat hs k).client), .int .u64 ((hat hs k).seq), .I ((hat hs k).kind), .string ((hat hs k).key), .slice a4q21 ((hat hs k).data.length) k4q21, .I ((hat hs k).code), .slice a6q21 ((hat hs k).answer.length) k6q21, .slice a7q21 ((hat hs k).names.length) k7q21, .I ((hat hs k).beg), .I ((hat hs k).fin)] 33 (0, 0)), (b10, .cells #[.func (.func 24) #[] #[.P b1 0, .P b5 0, .P b8 0, .P b10 0]] 69 (0, 0)), (b8, .cells #[.slice none 0 0] 36 (0, 0)), (b5, .cells #[.map (some b3)] 68 (0, 0)), (b3, mapO Value.string (Value.int .i64) ([] : List (ByteArray × Int × Nat)) 0), (b1, .cells #[.slice a hs.length c] 22 (0, 0))] H 0 rfl rfl ?_
  intro w34 H
  refine qF 0 [(5, .P b8 0), (6, .P b10 0), (7, .slice a9 ((li (nidx hs k)).length) c9), (8, .I k), (9, .P b32 0), (12, .slice a hs.length c), (13, .I ((hs.length : Nat) : Int)), (14, .I k)] ?_
  refine qR 1 [.c [6, 0, 1, 0, 0, 2, 0, 0, 1, 0], .c [6, 0, 1, 0, 0, 2, 0, 0, 2], .b 1, .c [6, 0, 1, 0, 0, 3], .l [6, 0, 1, 0, 0], .b 0, .c [7]] [(5, .P b8 0), (6, .P b10 0), (7, .slice a9 ((li (nidx hs k)).length) c9), (8, .I k), (9, .P b32 0), (12, .slice a hs.length c), (13, .I ((hs.length : Nat) : Int)), (14, .I k)] ?_
  refine qG (sq 0 3) ?_
  refine qL .seq 19 (sq 1 3) 33 b32 0 0 (.agg #[.int .u64 ((hat hs k).client), .int .u64 ((hat hs k).seq), .I ((hat hs k).kind), .string ((hat hs k).key), .slice a4q21 ((hat hs k).data.length) k4q21, .I ((hat hs k).code), .slice a6q21 ((hat hs k).answer.length) k6q21, .slice a7q21 ((hat hs k).names.length) k7q21, .I ((hat hs k).beg), .I ((hat hs k).fin)]) (H.cells 0 rfl) ?_
  refine qK .seq (some 20) (sq 2 3) 15 #[.agg #[.int .u64 ((hat hs k).client), .int .u64 ((hat hs k).seq), .I ((hat hs k).kind), .string ((hat hs k).key), .slice a4q21 ((hat hs k).data.length) k4q21, .I ((hat hs k).code), .slice a6q21 ((hat hs k).answer.length) k6q21, .slice a7q21 ((hat hs k).names.length) k7q21, .I ((hat hs k).beg), .I ((hat hs k).fin)]] (idle_spec (x := (hat hs k)) (wop_mk (l0 := [.int .u64 ((hat hs k).client)]) (y0 := (hat hs k).client) (l1 := [.int .u64 ((hat hs k).seq)]) (y1 := (hat hs k).seq) (l2 := [.I ((hat hs k).kind)]) (y2 := (hat hs k).kind) (l3 := [.string ((hat hs k).key)]) (y3 := (hat hs k).key) (l4 := [.slice a4q21 ((hat hs k).data.length) k4q21]) (y4 := (hat hs k).data) (l5 := [.I ((hat hs k).code)]) (y5 := (hat hs k).code) (l6 := [.slice a6q21 ((hat hs k).answer.length) k6q21]) (y6 := (hat hs k).answer) (l7 := [.slice a7q21 ((hat hs k).names.length) k7q21]) (y7 := (hat hs k).names) (l8 := [.I ((hat hs k).beg)]) (y8 := (hat hs k).beg) (l9 := [.I ((hat hs k).fin)]) (y9 := (hat hs k).fin) u64a u64a i64a ⟨rfl, by first | assumption | (simp [maxLen]; done) | decide⟩ (H.rp 2 rfl) i64a (H.rp 1 rfl) (H.rp 0 rfl) i64a i64a)) ?_
  rintro _ w35 hE36 rfl
  have H := H.ext hE36
  refine qF 1 [(5, .P b8 0), (6, .P b10 0), (7, .slice a9 ((li (nidx hs k)).length) c9), (8, .I k), (12, .slice a hs.length c), (13, .I ((hs.length : Nat) : Int)), (14, .I k), (21, .bool (!(idl (hat hs k))))] ?_
  refine qC (!(idl (hat hs k))) (fun h37 => ?_) (fun h37 => ?_)
  ·
   replace h37 : (idl (hat hs k)) = false := by revert h37; cases (idl (hat hs k)) <;> simp
   have hid : idl (hat hs k) = false := by simp [*]
   refine qG (sq 0 5) ?_
   refine qP 2 (sq 2 5) [(5, .P b8 0), (6, .P b10 0), (7, .slice a9 ((li (nidx hs k)).length) c9), (12, .slice a hs.length c), (13, .I ((hs.length : Nat) : Int)), (14, .I k), (22, .slice a9 ((li (nidx hs k)).length) c9), (23, .I k)] ?_
   refine RW.new (κ := .seq) (d := some 24) (r := (sq 3 5)) (o := .cells #[.I k] 3 (0, 0)) (v := fun b => .slice (some ⟨b, 0, none⟩) 1 1) (fun b => by as_aux_lemma => kernel_rfl) (nofun) H ?_
   intro b38 w39 H
   have H := H.freeze 0 rfl (Shape.int .i64) ([(k : Int)] : List Int) 1 (by simp [maxLen]) (by first | exact Nat.le_refl _ | simp) (EsP.cons (c := [.I k]) i64a EsP.nil)
   have H : Hp w S [] [(b32, .cells #[.int .u64 ((hat hs k).client), .int .u64 ((hat hs k).seq), .I ((hat hs k).kind), .string ((hat hs k).key), .slice a4q21 ((hat hs k).data.length) k4q21, .I ((hat hs k).code), .slice a6q21 ((hat hs k).answer.length) k6q21, .slice a7q21 ((hat hs k).names.length) k7q21, .I ((hat hs k).beg), .I ((hat hs k).fin)] 33 (0, 0)), (b10, .cells #[.func (.func 24) #[] #[.P b1 0, .P b5 0, .P b8 0, .P b10 0]] 69 (0, 0)), (b8, .cells #[.slice none 0 0] 36 (0, 0)), (b5, .cells #[.map (some b3)] 68 (0, 0)), (b3, mapO Value.string (Value.int .i64) ([] : List (ByteArray × Int × Nat)) 0), (b1, .cells #[.slice a hs.length c] 22 (0, 0))] [⟨(Shape.int .i64), 3, .slice a9 ((li (nidx hs k)).length) c9, li (nidx hs k)⟩] [Rp (Shape.slice (Shape.int .i64)) [.slice (some ⟨b38, 0, none⟩) 1 1] ([(k : Int)] : List Int), Rp (Shape.slice Shape.str) [.slice a7q21 ((hat hs k).names.length) k7q21] ((hat hs k).names), Rp SB [.slice a6q21 ((hat hs k).answer.length) k6q21] ((hat hs k).answer), Rp SB [.slice a4q21 ((hat hs k).data.length) k4q21] ((hat hs k).data), Fc b17 o18 [.int .u64 ((hat hs k).client), .int .u64 ((hat hs k).seq), .I ((hat hs k).kind), .string ((hat hs k).key), .slice a4q21 ((hat hs k).data.length) k4q21, .I ((hat hs k).code), .slice a6q21 ((hat hs k).answer.length) k6q21, .slice a7q21 ((hat hs k).names.length) k7q21, .I ((hat hs k).beg), .I ((hat hs k).fin)], Rp (Shape.slice wopS) [.slice a hs.length c] hs, Fz tabsQ] _ := H
   refine RW.appendW (d := some 25) (r := (sq 4 5)) (T := 36) (ty := 36) (e := 3) (m := 1) (by_ := 8) (v := .slice a9 ((li (nidx hs k)).length) c9) (a2 := (some ⟨b38, 0, none⟩)) (l2 := 1) (c2 := 1) (zs := (li (nidx hs (k + 1)))) (by as_aux_lemma => kernel_rfl) (by as_aux_lemma => kernel_rfl) rfl H 0 rfl 0 rfl (by rw [nidx_yes hid, li_snoc]) (by have := nidx_len hs (k + 1); rw [li_len]; omega) ?_
   intro a40 c41 w43 H hc42
   have H : Hp w S [] [(b32, .cells #[.int .u64 ((hat hs k).client), .int .u64 ((hat hs k).seq), .I ((hat hs k).kind), .string ((hat hs k).key), .slice a4q21 ((hat hs k).data.length) k4q21, .I ((hat hs k).code), .slice a6q21 ((hat hs k).answer.length) k6q21, .slice a7q21 ((hat hs k).names.length) k7q21, .I ((hat hs k).beg), .I ((hat hs k).fin)] 33 (0, 0)), (b10, .cells #[.func (.func 24) #[] #[.P b1 0, .P b5 0, .P b8 0, .P b10 0]] 69 (0, 0)), (b8, .cells #[.slice none 0 0] 36 (0, 0)), (b5, .cells #[.map (some b3)] 68 (0, 0)), (b3, mapO Value.string (Value.int .i64) ([] : List (ByteArray × Int × Nat)) 0), (b1, .cells #[.slice a hs.length c] 22 (0, 0))] [⟨(Shape.int .i64), 3, .slice a40 ((li (nidx hs (k + 1))).length) c41, (li (nidx hs (k + 1)))⟩] [Rp (Shape.slice (Shape.int .i64)) [.slice (some ⟨b38, 0, none⟩) 1 1] ([(k : Int)] : List Int), Rp (Shape.slice Shape.str) [.slice a7q21 ((hat hs k).names.length) k7q21] ((hat hs k).names), Rp SB [.slice a6q21 ((hat hs k).answer.length) k6q21] ((hat hs k).answer), Rp SB [.slice a4q21 ((hat hs k).data.length) k4q21] ((hat hs k).data), Fc b17 o18 [.int .u64 ((hat hs k).client), .int .u64 ((hat hs k).seq), .I ((hat hs k).kind), .string ((hat hs k).key), .slice a4q21 ((hat hs k).data.length) k4q21, .I ((hat hs k).code), .slice a6q21 ((hat hs k).answer.length) k6q21, .slice a7q21 ((hat hs k).names.length) k7q21, .I ((hat hs k).beg), .I ((hat hs k).fin)], Rp (Shape.slice wopS) [.slice a hs.length c] hs, Fz tabsQ] _ := H
   refine qF 1 [(5, .P b8 0), (6, .P b10 0), (7, .slice a40 ((li (nidx hs (k + 1))).length) c41), (12, .slice a hs.length c), (13, .I ((hs.length : Nat) : Int)), (14, .I k)] ?_
   refine qR 1 [.c [6, 0, 1, 0, 0, 3], .l [6, 0, 1, 0, 0], .b 0, .c [7]] [(5, .P b8 0), (6, .P b10 0), (7, .slice a40 ((li (nidx hs (k + 1))).length) c41), (12, .slice a hs.length c), (13, .I ((hs.length : Nat) : Int)), (14, .I k)] ?_
   refine qG (sq 0 2) ?_
   refine qI .seq 26 (sq 1 2) ((k : Int) + 1) ?_
   refine qF 1 [(5, .P b8 0), (6, .P b10 0), (7, .slice a40 ((li (nidx hs (k + 1))).length) c41), (12, .slice a hs.length c), (13, .I ((hs.length : Nat) : Int)), (14, .I ((k : Int) + 1))] ?_
   have H := H.pick [5, 6] rfl
   have H := H.frontM 5 (M' := [(b1, .cells #[.slice a hs.length c] 22 (0, 0)), (b32, .cells #[.int .u64 ((hat hs k).client), .int .u64 ((hat hs k).seq), .I ((hat hs k).kind), .string ((hat hs k).key), .slice a4q21 ((hat hs k).data.length) k4q21, .I ((hat hs k).code), .slice a6q21 ((hat hs k).answer.length) k6q21, .slice a7q21 ((hat hs k).names.length) k7q21, .I ((hat hs k).beg), .I ((hat hs k).fin)] 33 (0, 0)), (b10, .cells #[.func (.func 24) #[] #[.P b1 0, .P b5 0, .P b8 0, .P b10 0]] 69 (0, 0)), (b8, .cells #[.slice none 0 0] 36 (0, 0)), (b5, .cells #[.map (some b3)] 68 (0, 0)), (b3, mapO Value.string (Value.int .i64) ([] : List (ByteArray × Int × Nat)) 0)]) rfl
   have H := H.frontM 5 (M' := [(b3, mapO Value.string (Value.int .i64) ([] : List (ByteArray × Int × Nat)) 0), (b1, .cells #[.slice a hs.length c] 22 (0, 0)), (b32, .cells #[.int .u64 ((hat hs k).client), .int .u64 ((hat hs k).seq), .I ((hat hs k).kind), .string ((hat hs k).key), .slice a4q21 ((hat hs k).data.length) k4q21, .I ((hat hs k).code), .slice a6q21 ((hat hs k).answer.length) k6q21, .slice a7q21 ((hat hs k).names.length) k7q21, .I ((hat hs k).beg), .I ((hat hs k).fin)] 33 (0, 0)), (b10, .cells #[.func (.func 24) #[] #[.P b1 0, .P b5 0, .P b8 0, .P b10 0]] 69 (0, 0)), (b8, .cells #[.slice none 0 0] 36 (0, 0)), (b5, .cells #[.map (some b3)] 68 (0, 0))]) rfl
   have H := H.frontM 5 (M' := [(b5, .cells #[.map (some b3)] 68 (0, 0)), (b3, mapO Value.string (Value.int .i64) ([] : List (ByteArray × Int × Nat)) 0), (b1, .cells #[.slice a hs.length c] 22 (0, 0)), (b32, .cells #[.int .u64 ((hat hs k).client), .int .u64 ((hat hs k).seq), .I ((hat hs k).kind), .string ((hat hs k).key), .slice a4q21 ((hat hs k).data.length) k4q21, .I ((hat hs k).code), .slice a6q21 ((hat hs k).answer.length) k6q21, .slice a7q21 ((hat hs k).names.length) k7q21, .I ((hat hs k).beg), .I ((hat hs k).fin)] 33 (0, 0)), (b10, .cells #[.func (.func 24) #[] #[.P b1 0, .P b5 0, .P b8 0, .P b10 0]] 69 (0, 0)), (b8, .cells #[.slice none 0 0] 36 (0, 0))]) rfl
   have H := H.frontM 5 (M' := [(b8, .cells #[.slice none 0 0] 36 (0, 0)), (b5, .cells #[.map (some b3)] 68 (0, 0)), (b3, mapO Value.string (Value.int .i64) ([] : List (ByteArray × Int × Nat)) 0), (b1, .cells #[.slice a hs.length c] 22 (0, 0)), (b32, .cells #[.int .u64 ((hat hs k).client), .int .u64 ((hat hs k).seq), .I ((hat hs k).kind), .string ((hat hs k).key), .slice a4q21 ((hat hs k).data.length) k4q21, .I ((hat hs k).code), .slice a6q21 ((hat hs k).answer.length) k6q21, .slice a7q21 ((hat hs k).names.length) k7q21, .I ((hat hs k).beg), .I ((hat hs k).fin)] 33 (0, 0)), (b10, .cells #[.func (.func 24) #[] #[.P b1 0, .P b5 0, .P b8 0, .P b10 0]] 69 (0, 0))]) rfl
   have H := H.frontM 5 (M' := [(b10, .cells #[.func (.func 24) #[] #[.P b1 0, .P b5 0, .P b8 0, .P b10 0]] 69 (0, 0)), (b8, .cells #[.slice none 0 0] 36 (0, 0)), (b5, .cells #[.map (some b3)] 68 (0, 0)), (b3, mapO Value.string (Value.int .i64) ([] : List (ByteArray × Int × Nat)) 0), (b1, .cells #[.slice a hs.length c] 22 (0, 0)), (b32, .cells #[.int .u64 ((hat hs k).client), .int .u64 ((hat hs k).seq), .I ((hat hs k).kind), .string ((hat hs k).key), .slice a4q21 ((hat hs k).data.length) k4q21, .I ((hat hs k).code), .slice a6q21 ((hat hs k).answer.length) k6q21, .slice a7q21 ((hat hs k).names.length) k7q21, .I ((hat hs k).beg), .I ((hat hs k).fin)] 33 (0, 0))]) rfl
   have H := H.drop (M' := [(b10, .cells #[.func (.func 24) #[] #[.P b1 0, .P b5 0, .P b8 0, .P b10 0]] 69 (0, 0)), (b8, .cells #[.slice none 0 0] 36 (0, 0)), (b5, .cells #[.map (some b3)] 68 (0, 0)), (b3, mapO Value.string (Value.int .i64) ([] : List (ByteArray × Int × Nat)) 0), (b1, .cells #[.slice a hs.length c] 22 (0, 0))]) (W' := [⟨(Shape.int .i64), 3, .slice a40 ((li (nidx hs (k + 1))).length) c41, li (nidx hs (k + 1))⟩]) (by repeat (first | exact List.Sublist.refl _ | apply List.Sublist.cons_cons | apply List.Sublist.cons)) (by repeat (first | exact List.Sublist.refl _ | apply List.Sublist.cons_cons | apply List.Sublist.cons))
   exact WK.back (hback13 (k + 1, a40, c41) _ ⟨H, by omega⟩ (by first | omega | (simp only []; omega))) (by as_aux_lemma => kernel_rfl)
  ·
   replace h37 : (idl (hat hs k)) = true := by revert h37; cases (idl (hat hs k)) <;> simp
   have hid : idl (hat hs k) = true := by simpa using h37
   refine qR 2 [.c [6, 0, 1, 0, 0, 3], .l [6, 0, 1, 0, 0], .b 0, .c [7]] [(5, .P b8 0), (6, .P b10 0), (7, .slice a9 ((li (nidx hs k)).length) c9), (12, .slice a hs.length c), (13, .I ((hs.length : Nat) : Int)), (14, .I k)] ?_
   refine qG (sq 0 2) ?_
   refine qI .seq 26 (sq 1 2) ((k : Int) + 1) ?_
   refine qF 1 [(5, .P b8 0), (6, .P b10 0), (7, .slice a9 ((li (nidx hs k)).length) c9), (12, .slice a hs.length c), (13, .I ((hs.length : Nat) : Int)), (14, .I ((k : Int) + 1))] ?_
   rw [show nidx hs k = nidx hs (k + 1) from (nidx_no hid).symm] at H ⊢
   have H := H.pick [4, 5] rfl
   have H := H.frontM 5 (M' := [(b1, .cells #[.slice a hs.length c] 22 (0, 0)), (b32, .cells #[.int .u64 ((hat hs k).client), .int .u64 ((hat hs k).seq), .I ((hat hs k).kind), .string ((hat hs k).key), .slice a4q21 ((hat hs k).data.length) k4q21, .I ((hat hs k).code), .slice a6q21 ((hat hs k).answer.length) k6q21, .slice a7q21 ((hat hs k).names.length) k7q21, .I ((hat hs k).beg), .I ((hat hs k).fin)] 33 (0, 0)), (b10, .cells #[.func (.func 24) #[] #[.P b1 0, .P b5 0, .P b8 0, .P b10 0]] 69 (0, 0)), (b8, .cells #[.slice none 0 0] 36 (0, 0)), (b5, .cells #[.map (some b3)] 68 (0, 0)), (b3, mapO Value.string (Value.int .i64) ([] : List (ByteArray × Int × Nat)) 0)]) rfl
   have H := H.frontM 5 (M' := [(b3, mapO Value.string (Value.int .i64) ([] : List (ByteArray × Int × Nat)) 0), (b1, .cells #[.slice a hs.length c] 22 (0, 0)), (b32, .cells #[.int .u64 ((hat hs k).client), .int .u64 ((hat hs k).seq), .I ((hat hs k).kind), .string ((hat hs k).key), .slice a4q21 ((hat hs k).data.length) k4q21, .I ((hat hs k).code), .slice a6q21 ((hat hs k).answer.length) k6q21, .slice a7q21 ((hat hs k).names.length) k7q21, .I ((hat hs k).beg), .I ((hat hs k).fin)] 33 (0, 0)), (b10, .cells #[.func (.func 24) #[] #[.P b1 0, .P b5 0, .P b8 0, .P b10 0]] 69 (0, 0)), (b8, .cells #[.slice none 0 0] 36 (0, 0)), (b5, .cells #[.map (some b3)] 68 (0, 0))]) rfl
   have H := H.frontM 5 (M' := [(b5, .cells #[.map (some b3)] 68 (0, 0)), (b3, mapO Value.string (Value.int .i64) ([] : List (ByteArray × Int × Nat)) 0), (b1, .cells #[.slice a hs.length c] 22 (0, 0)), (b32, .cells #[.int .u64 ((hat hs k).client), .int .u64 ((hat hs k).seq), .I ((hat hs k).kind), .string ((hat hs k).key), .slice a4q21 ((hat hs k).data.length) k4q21, .I ((hat hs k).code), .slice a6q21 ((hat hs k).answer.length) k6q21, .slice a7q21 ((hat hs k).names.length) k7q21, .I ((hat hs k).beg), .I ((hat hs k).fin)] 33 (0, 0)), (b10, .cells #[.func (.func 24) #[] #[.P b1 0, .P b5 0, .P b8 0, .P b10 0]] 69 (0, 0)), (b8, .cells #[.slice none 0 0] 36 (0, 0))]) rfl
   have H := H.frontM 5 (M' := [(b8, .cells #[.slice none 0 0] 36 (0, 0)), (b5, .cells #[.map (some b3)] 68 (0, 0)), (b3, mapO Value.string (Value.int .i64) ([] : List (ByteArray × Int × Nat)) 0), (b1, .cells #[.slice a hs.length c] 22 (0, 0)), (b32, .cells #[.int .u64 ((hat hs k).client), .int .u64 ((hat hs k).seq), .I ((hat hs k).kind), .string ((hat hs k).key), .slice a4q21 ((hat hs k).data.length) k4q21, .I ((hat hs k).code), .slice a6q21 ((hat hs k).answer.length) k6q21, .slice a7q21 ((hat hs k).names.length) k7q21, .I ((hat hs k).beg), .I ((hat hs k).fin)] 33 (0, 0)), (b10, .cells #[.func (.func 24) #[] #[.P b1 0, .P b5 0, .P b8 0, .P b10 0]] 69 (0, 0))]) rfl
   have H := H.frontM 5 (M' := [(b10, .cells #[.func (.func 24) #[] #[.P b1 0, .P b5 0, .P b8 0, .P b10 0]] 69 (0, 0)), (b8, .cells #[.slice none 0 0] 36 (0, 0)), (b5, .cells #[.map (some b3)] 68 (0, 0)), (b3, mapO Value.string (Value.int .i64) ([] : List (ByteArray × Int × Nat)) 0), (b1, .cells #[.slice a hs.length c] 22 (0, 0)), (b32, .cells #[.int .u64 ((hat hs k).client), .int .u64 ((hat hs k).seq), .I ((hat hs k).kind), .string ((hat hs k).key), .slice a4q21 ((hat hs k).data.length) k4q21, .I ((hat hs k).code), .slice a6q21 ((hat hs k).answer.length) k6q21, .slice a7q21 ((hat hs k).names.length) k7q21, .I ((hat hs k).beg), .I ((hat hs k).fin)] 33 (0, 0))]) rfl
   have H := H.drop (M' := [(b10, .cells #[.func (.func 24) #[] #[.P b1 0, .P b5 0, .P b8 0, .P b10 0]] 69 (0, 0)), (b8, .cells #[.slice none 0 0] 36 (0, 0)), (b5, .cells #[.map (some b3)] 68 (0, 0)), (b3, mapO Value.string (Value.int .i64) ([] : List (ByteArray × Int × Nat)) 0), (b1, .cells #[.slice a hs.length c] 22 (0, 0))]) (W' := [⟨(Shape.int .i64), 3, .slice a9 ((li (nidx hs (k + 1))).length) c9, li (nidx hs (k + 1))⟩]) (by repeat (first | exact List.Sublist.refl _ | apply List.Sublist.cons_cons | apply List.Sublist.cons)) (by repeat (first | exact List.Sublist.refl _ | apply List.Sublist.cons_cons | apply List.Sublist.cons))
   exact WK.back (hback13 (k + 1, a9, c9) _ ⟨H, by omega⟩ (by first | omega | (simp only []; omega))) (by as_aux_lemma => kernel_rfl)
 ·
  obtain rfl : k = hs.length := by omega
  refine qR 3 [.c [7, 0, 0], .c [7, 0, 1], .c [8]] [(5, .P b8 0), (6, .P b10 0), (7, .slice a9 ((li (nidx hs hs.length)).length) c9)] ?_
  refine qG (sq 0 5) ?_
  refine qL .seq 27 (sq 1 5) 69 b10 0 0 (.func (.func 24) #[] #[.P b1 0, .P b5 0, .P b8 0, .P b10 0]) (H.cells 0 rfl) ?_
  refine qP 1 (sq 2 5) [(5, .P b8 0), (27, .func (.func 24) #[] #[.P b1 0, .P b5 0, .P b8 0, .P b10 0]), (28, .slice a9 ((li (nidx hs hs.length)).length) c9)] ?_
  refine RW.new (κ := .seq) (d := some 29) (r := (sq 3 5)) (o := mapO Value.string Value.string ([] : List (ByteArray × ByteArray × Nat)) 0) (v := fun b_ => .map (some b_)) (fun _ => by as_aux_lemma => kernel_rfl) (nofun) H ?_
  intro b44 w45 H
  have H : Hp w S [] [(b44, mapO Value.string Value.string ([] : List (ByteArray × ByteArray × Nat)) 0), (b10, .cells #[.func (.func 24) #[] #[.P b1 0, .P b5 0, .P b8 0, .P b10 0]] 69 (0, 0)), (b8, .cells #[.slice none 0 0] 36 (0, 0)), (b5, .cells #[.map (some b3)] 68 (0, 0)), (b3, mapO Value.string (Value.int .i64) ([] : List (ByteArray × Int × Nat)) 0), (b1, .cells #[.slice a hs.length c] 22 (0, 0))] [] [Rp (Shape.slice (Shape.int .i64)) [.slice a9 ((li (nidx hs hs.length)).length) c9] (li (nidx hs hs.length)), Rp (Shape.slice wopS) [.slice a hs.length c] hs, Fz tabsQ] _ := H.freezeW 0 rfl
  have H := H.ownNil (Shape.int .i64) 3
  have H := H.freezeO
  have H : Hp w S [] [(b10, .cells #[.func (.func 24) #[] #[.P b1 0, .P b5 0, .P b8 0, .P b10 0]] 69 (0, 0)), (b8, .cells #[.slice none 0 0] 36 (0, 0)), (b5, .cells #[.map (some b3)] 68 (0, 0)), (b3, mapO Value.string (Value.int .i64) ([] : List (ByteArray × Int × Nat)) 0), (b1, .cells #[.slice a hs.length c] 22 (0, 0))] [⟨(Shape.int .i64), 3, .slice none 0 0, []⟩] [Fm b44 (mapO Value.string Value.string ([] : List (ByteArray × ByteArray × Nat)) 0), Rp (Shape.slice (Shape.int .i64)) [.slice a9 ((li (nidx hs hs.length)).length) c9] (li (nidx hs hs.length)), Rp (Shape.slice wopS) [.slice a hs.length c] hs, Fz tabsQ] _ := H
  have H := H.frontM 4 (M' := [(b1, .cells #[.slice a hs.length c] 22 (0, 0)), (b10, .cells #[.func (.func 24) #[] #[.P b1 0, .P b5 0, .P b8 0, .P b10 0]] 69 (0, 0)), (b8, .cells #[.slice none 0 0] 36 (0, 0)), (b5, .cells #[.map (some b3)] 68 (0, 0)), (b3, mapO Value.string (Value.int .i64) ([] : List (ByteArray × Int × Nat)) 0)]) rfl
  have H := H.freezeM
  have H : Hp w S [] [(b10, .cells #[.func (.func 24) #[] #[.P b1 0, .P b5 0, .P b8 0, .P b10 0]] 69 (0, 0)), (b8, .cells #[.slice none 0 0] 36 (0, 0)), (b5, .cells #[.map (some b3)] 68 (0, 0)), (b3, mapO Value.string (Value.int .i64) ([] : List (ByteArray × Int × Nat)) 0)] [⟨(Shape.int .i64), 3, .slice none 0 0, []⟩] [Fc b1 0 [.slice a hs.length c], Fm b44 (mapO Value.string Value.string ([] : List (ByteArray × ByteArray × Nat)) 0), Rp (Shape.slice (Shape.int .i64)) [.slice a9 ((li (nidx hs hs.length)).length) c9] (li (nidx hs hs.length)), Rp (Shape.slice wopS) [.slice a hs.length c] hs, Fz tabsQ] _ := H
  have H := H.frontM 2 (M' := [(b5, .cells #[.map (some b3)] 68 (0, 0)), (b10, .cells #[.func (.func 24) #[] #[.P b1 0, .P b5 0, .P b8 0, .P b10 0]] 69 (0, 0)), (b8, .cells #[.slice none 0 0] 36 (0, 0)), (b3, mapO Value.string (Value.int .i64) ([] : List (ByteArray × Int × Nat)) 0)]) rfl
  have H := H.freezeM
  have H : Hp w S [] [(b10, .cells #[.func (.func 24) #[] #[.P b1 0, .P b5 0, .P b8 0, .P b10 0]] 69 (0, 0)), (b8, .cells #[.slice none 0 0] 36 (0, 0)), (b3, mapO Value.string (Value.int .i64) ([] : List (ByteArray × Int × Nat)) 0)] [⟨(Shape.int .i64), 3, .slice none 0 0, []⟩] [Fc b5 0 [.map (some b3)], Fc b1 0 [.slice a hs.length c], Fm b44 (mapO Value.string Value.string ([] : List (ByteArray × ByteArray × Nat)) 0), Rp (Shape.slice (Shape.int .i64)) [.slice a9 ((li (nidx hs hs.length)).length) c9] (li (nidx hs hs.length)), Rp (Shape.slice wopS) [.slice a hs.length c] hs, Fz tabsQ] _ := H
  have H := H.freezeM
  have H : Hp w S [] [(b8, .cells #[.slice none 0 0] 36 (0, 0)), (b3, mapO Value.string (Value.int .i64) ([] : List (ByteArray × Int × Nat)) 0)] [⟨(Shape.int .i64), 3, .slice none 0 0, []⟩] [Fc b10 0 [.func (.func 24) #[] #[.P b1 0, .P b5 0, .P b8 0, .P b10 0]], Fc b5 0 [.map (some b3)], Fc b1 0 [.slice a hs.length c], Fm b44 (mapO Value.string Value.string ([] : List (ByteArray × ByteArray × Nat)) 0), Rp (Shape.slice (Shape.int .i64)) [.slice a9 ((li (nidx hs hs.length)).length) c9] (li (nidx hs hs.length)), Rp (Shape.slice wopS) [.slice a hs.length c] hs, Fz tabsQ] _ := H
  refine RW.callS (d := some 30) (r := (sq 4 5)) (g := 24) (args := #[.slice a9 ((li (nidx hs hs.length)).length) c9, .map (some b44), .P b1 0, .P b5 0, .P b8 0, .P b10 0]) (by as_aux_lemma => kernel_rfl) (from_all _ (hs := hs) (lf := nidx hs hs.length) (od := []) rfl (fun i hi => nidx_lt hi) hhl hsz TabOk.nil (fun p hp => by cases hp) (by have := nidx_len hs hs.length; simp only [List.length_nil]; omega) [] (fun p hp => by cases hp) (MemoOk.nil hs) (by have := nidx_len hs hs.length; simp only [List.length_nil]; omega) ((H.lend (M1 := [(b8, .cells #[.slice none 0 0] 36 (0, 0)), (b3, mapO Value.string (Value.int .i64) ([] : List (ByteArray × Int × Nat)) 0)]) (W1 := [⟨(Shape.int .i64), 3, .slice none 0 0, []⟩])).pick [4, 3, 5, 2, 1, 0, 6] rfl)) ?_
  rintro _ w46 ⟨bx47, od48, ao49, co50, TL51, tc52, rfl, hbx53, hbn54, H'⟩
  have H := H.back (M1 := [(b8, .cells #[.slice none 0 0] 36 (0, 0)), (b3, mapO Value.string (Value.int .i64) ([] : List (ByteArray × Int × Nat)) 0)]) (W1 := [⟨(Shape.int .i64), 3, .slice none 0 0, []⟩]) H'
  have H : Hp w S [] [(b8, .cells #[.slice ao49 od48.length co50] 36 (0, 0)), (b3, mapO Value.string (Value.int .i64) TL51 tc52)] [⟨(Shape.int .i64), 3, .slice ao49 od48.length co50, od48⟩] [Fc b10 0 [.func (.func 24) #[] #[.P b1 0, .P b5 0, .P b8 0, .P b10 0]], Fc b5 0 [.map (some b3)], Fc b1 0 [.slice a hs.length c], Fm b44 (mapO Value.string Value.string ([] : List (ByteArray × ByteArray × Nat)) 0), Rp (Shape.slice (Shape.int .i64)) [.slice a9 ((li (nidx hs hs.length)).length) c9] (li (nidx hs hs.length)), Rp (Shape.slice wopS) [.slice a hs.length c] hs, Fz tabsQ] _ := H
  refine qF 1 [(5, .P b8 0), (31, .bool (!bx47))] ?_
  refine qC (!bx47) (fun h55 => ?_) (fun h55 => ?_)
  ·
   replace h55 : (bx47) = false := by revert h55; cases (bx47) <;> simp
   refine qR 2 [.c [7, 0, 1, 0, 1], .c [8]] [(2, .slice none 0 0), (3, .bool false)] ?_
   refine qT (.tuple #[.slice none 0 0, .bool false]) Tryd.func14 ?_
   exact ⟨_, rfl, H.done, _, _, rfl, by rw [nidx_left] at hbx53; exact ⟨fun q => (by cases q), fun q => absurd (hbx53.2 q) (by simp [*])⟩⟩
  ·
   replace h55 : (bx47) = true := by revert h55; cases (bx47) <;> simp
   refine qR 2 [.c [8, 0], .c [9]] [(5, .P b8 0)] ?_
   refine qG (sq 0 3) ?_
   refine qL .seq 32 (sq 1 3) 36 b8 0 0 (.slice ao49 od48.length co50) (H.cells 0 rfl) ?_
   refine qF 2 [(2, .slice ao49 od48.length co50), (3, .bool true)] ?_
   refine qT (.tuple #[.slice ao49 od48.length co50, .bool true]) Tryd.func14 ?_
   exact ⟨_, rfl, H.done, _, _, rfl, by rw [nidx_left] at hbx53; exact ⟨fun _ => hbx53.1 (by simp [*]), fun _ => rfl⟩⟩
end Go.Proofs.YtcodkepdolmmbaaDoor
