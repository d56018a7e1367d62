import Derived.Test.YtcodkepdolmmbaaDoorSW4
namespace Go.Proofs.YtcodkepdolmmbaaDoor
open Go.BX
def hat (hs : List Wop) (i : Nat) : Wop := (hs[i]?).getD hdZero
theorem hat_eq {hs : List Wop} {i : Nat} (h : i < hs.length) : hs[i] = hat hs i := by
 unfold hat
 rw [List.getElem?_eq_getElem h]; rfl
theorem hat_some {hs : List Wop} {i : Nat} (h : i < hs.length) : hs[i]? = some (hat hs i) := by rw [List.getElem?_eq_getElem h, hat_eq h]
def li (lf : List Nat) : List Int := lf.map fun i : Nat => (i : Int)
theorem li_len (lf : List Nat) : (li lf).length = lf.length := List.length_map _
theorem li_at {lf : List Nat} {k : Nat} (h : k < (li lf).length) (h' : k < lf.length) : (li lf)[k] = ((lf[k] : Nat) : Int) := List.getElem_map _
theorem li_some {lf : List Nat} {k : Nat} (h : k < lf.length) : (li lf)[k]? = some ((lf[k] : Nat) : Int) := by
 have := li_len lf
 rw [List.getElem?_eq_getElem (by omega), li_at _ h]
theorem none_step {α : Type} {p : α → Prop} {l : List α} {k : Nat} (hk : k < l.length) (h : ∀ x ∈ l.take k, ¬ p x) (hc : ¬ p l[k]) : ∀ x ∈ l.take (k + 1), ¬ p x := fun x hx => by
 rw [List.take_succ_eq_append_getElem hk] at hx
 rcases List.mem_append.1 hx with hx | hx
 · exact h x hx
 · rw [List.mem_singleton.1 hx]; exact hc
theorem none_all {α : Type} {p : α → Prop} {l : List α} {k : Nat} (hk : l.length ≤ k) (h : ∀ x ∈ l.take k, ¬ p x) : ¬ ∃ x ∈ l, p x := fun ⟨x, hx, q⟩ => h x (by rw [List.take_of_length_le hk]; exact hx) q
theorem nopen_spec {S : Nat → Prop} {w : World} {hs : List Wop} {a : Option Addr} {c : Nat} (h : (Shape.slice wopS).rep S w [.slice a hs.length c] hs) {bh : Nat} (hF : (Fc bh 0 [.slice a hs.length c]).p S w) {i : Nat} (hi : i < hs.length) :
 Calls Tryd.prog 26 #[.I i, .P bh 0] w (Ret fun v w' => Ext w w' ∧ ∃ b : Bool, v = .bool b ∧ (b = true ↔ opn (hat hs i) = false)) := by
 have hlen := Shape.slice_len h
 refine qS (fn := Tryd.f26) (n := 10) (σ := [(0, .I i), (1, .P bh 0)]) Tryd.func26 ?_
 have H := Hp.startF (w := w) (S := S) (G := [Rp (Shape.slice wopS) [.slice a hs.length c] hs, Fc bh 0 [.slice a hs.length c]]) (.rp h (.cons hF .nil))
 refine qR 3 [.c [1, 0], .c [2]] [(0, .I i), (1, .P bh 0)] ?_
 refine qG (sq 0 7) ?_
 refine qL .seq 4 (sq 1 7) 22 bh 0 0 (.slice a hs.length c) (H.fc 1 rfl) ?_
 refine qP 1 (sq 2 7) [(4, .slice a hs.length c), (5, .I i)] ?_
 have hx1 : i < hs.length := by omega
 refine qX .seq 6 (sq 3 7) 22 33 (i : Int) wopS (hat hs i) H 0 rfl i (by omega) (hat_some hi) ?_
 intro b2 o3 es4 hr5 H
 obtain ⟨a4q6, k4q6, a6q6, k6q6, a7q6, k7q6, rfl, hf7, hf8, hf9, hf10, hf11, hf12, hf13, hf14, hf15, hf16⟩ := wop_open hr5
 have H := H.add (F := Rp SB [.slice a4q6 ((hat hs i).data.length) k4q6] ((hat hs i).data)) hf11
 have H := H.add (F := Rp SB [.slice a6q6 ((hat hs i).answer.length) k6q6] ((hat hs i).answer)) hf13
 have H := H.add (F := Rp (Shape.slice Shape.str) [.slice a7q6 ((hat hs i).names.length) k7q6] ((hat hs i).names)) hf14
 refine qL .seq 7 (sq 4 7) 33 b2 o3 0 (.agg #[.int .u64 ((hat hs i).client), .int .u64 ((hat hs i).seq), .I ((hat hs i).kind), .string ((hat hs i).key), .slice a4q6 ((hat hs i).data.length) k4q6, .I ((hat hs i).code), .slice a6q6 ((hat hs i).answer.length) k6q6, .slice a7q6 ((hat hs i).names.length) k7q6, .I ((hat hs i).beg), .I ((hat hs i).fin)]) (H.fc 3 rfl) ?_
 refine qK .seq (some 8) (sq 5 7) 17 #[.agg #[.int .u64 ((hat hs i).client), .int .u64 ((hat hs i).seq), .I ((hat hs i).kind), .string ((hat hs i).key), .slice a4q6 ((hat hs i).data.length) k4q6, .I ((hat hs i).code), .slice a6q6 ((hat hs i).answer.length) k6q6, .slice a7q6 ((hat hs i).names.length) k7q6, .I ((hat hs i).beg), .I ((hat hs i).fin)]] (open_spec (x := (hat hs i)) (wop_mk (l0 := [.int .u64 ((hat hs i).client)]) (y0 := (hat hs i).client) (l1 := [.int .u64 ((hat hs i).seq)]) (y1 := (hat hs i).seq) (l2 := [.I ((hat hs i).kind)]) (y2 := (hat hs i).kind) (l3 := [.string ((hat hs i).key)]) (y3 := (hat hs i).key) (l4 := [.slice a4q6 ((hat hs i).data.length) k4q6]) (y4 := (hat hs i).data) (l5 := [.I ((hat hs i).code)]) (y5 := (hat hs i).code) (l6 := [.slice a6q6 ((hat hs i).answer.length) k6q6]) (y6 := (hat hs i).answer) (l7 := [.slice a7q6 ((hat hs i).names.length) k7q6]) (y7 := (hat hs i).names) (l8 := [.I ((hat hs i).beg)]) (y8 := (hat hs i).beg) (l9 := [.I ((hat hs i).fin)]) (y9 := (hat hs i).fin) u64a u64a i64a ⟨rfl, by first | assumption | (simp [maxLen]; done) | decide⟩ (H.rp 2 rfl) i64a (H.rp 1 rfl) (H.rp 0 rfl) i64a i64a)) ?_
 rintro _ w17 hE18 rfl
 have H := H.ext hE18
 refine qF 2 [(3, .bool (!(opn (hat hs i))))] ?_
 refine qT (.bool (!(opn (hat hs i)))) Tryd.func26 ?_
 exact ⟨_, rfl, H.done, _, rfl, by simp⟩
theorem nlate_spec {S : Nat → Prop} {w : World} {hs : List Wop} {a : Option Addr} {c : Nat} (h : (Shape.slice wopS).rep S w [.slice a hs.length c] hs) {bh : Nat} (hF : (Fc bh 0 [.slice a hs.length c]).p S w) {bi m : Nat} (hI : (Fc bi 0 [.I m]).p S w) (hmm : m < hs.length) {i : Nat} (hi : i < hs.length) :
 Calls Tryd.prog 29 #[.I i, .P bh 0, .P bi 0] w (Ret fun v w' => Ext w w' ∧ ∃ b : Bool, v = .bool b ∧ (b = true ↔ opn (hat hs i) = false ∧ (hat hs i).fin < (hat hs m).beg)) := by
 have hlen := Shape.slice_len h
 refine qS (fn := Tryd.f29) (n := 24) (σ := [(0, .I i), (1, .P bh 0), (2, .P bi 0)]) Tryd.func29 ?_
 have H := Hp.startF (w := w) (S := S) (G := [Rp (Shape.slice wopS) [.slice a hs.length c] hs, Fc bh 0 [.slice a hs.length c], Fc bi 0 [.I m]]) (.rp h (.cons hF (.cons hI .nil)))
 refine qR 3 [.c [1, 0], .c [2]] [(0, .I i), (1, .P bh 0), (2, .P bi 0)] ?_
 refine WK.draw1 20 [(0, .qui), (1, .qui), (2, .qui), (3, .qui), (4, .chn), (5, .qui), (6, .qui), (7, .qui), (8, .qui), (9, .qui), (10, .qui), (11, .qui), (12, .qui), (13, .qui), (14, .qui), (15, .qui), (16, .qui), (17, .qui), (18, .qui), (19, .qui)] [(0, .qui), (1, .qui), (2, .qui), (3, .qui), (4, .chn), (5, .qui), (6, .qui), (7, .qui), (8, .qui), (9, .qui), (10, .qui), (11, .qui), (12, .qui), (13, .qui), (14, .qui), (15, .qui), (16, .qui), (17, .qui), (18, .qui), (19, .qui)] Tryd_mixed (by as_aux_lemma => kernel_rfl) (by as_aux_lemma => kernel_rfl) (by as_aux_lemma => kernel_rfl) ?_
 have H := H.draw
 generalize ({ w with drawn := w.drawn + 1 } : World) = w1 at H ⊢
 refine qL .qui 5 [(1, .qui), (2, .qui), (3, .qui), (4, .chn), (5, .qui), (6, .qui), (7, .qui), (8, .qui), (9, .qui), (10, .qui), (11, .qui), (12, .qui), (13, .qui), (14, .qui), (15, .qui), (16, .qui), (17, .qui), (18, .qui), (19, .qui)] 22 bh 0 0 (.slice a hs.length c) (H.fc 1 rfl) ?_
 refine qP 1 [(2, .qui), (3, .qui), (4, .chn), (5, .qui), (6, .qui), (7, .qui), (8, .qui), (9, .qui), (10, .qui), (11, .qui), (12, .qui), (13, .qui), (14, .qui), (15, .qui), (16, .qui), (17, .qui), (18, .qui), (19, .qui)] [(0, .I i), (1, .P bh 0), (2, .P bi 0), (5, .slice a hs.length c), (6, .I i)] ?_
 have hx2 : i < hs.length := by omega
 refine qX .qui 7 [(3, .qui), (4, .chn), (5, .qui), (6, .qui), (7, .qui), (8, .qui), (9, .qui), (10, .qui), (11, .qui), (12, .qui), (13, .qui), (14, .qui), (15, .qui), (16, .qui), (17, .qui), (18, .qui), (19, .qui)] 22 33 (i : Int) wopS (hat hs i) H 0 rfl i (by omega) (hat_some hi) ?_
 intro b3 o4 es5 hr6 H
 obtain ⟨a4q7, k4q7, a6q7, k6q7, a7q7, k7q7, rfl, hf8, hf9, hf10, hf11, hf12, hf13, hf14, hf15, hf16, hf17⟩ := wop_open hr6
 have H := H.add (F := Rp SB [.slice a4q7 ((hat hs i).data.length) k4q7] ((hat hs i).data)) hf12
 have H := H.add (F := Rp SB [.slice a6q7 ((hat hs i).answer.length) k6q7] ((hat hs i).answer)) hf14
 have H := H.add (F := Rp (Shape.slice Shape.str) [.slice a7q7 ((hat hs i).names.length) k7q7] ((hat hs i).names)) hf15
 refine qL .qui 8 [(4, .chn), (5, .qui), (6, .qui), (7, .qui), (8, .qui), (9, .qui), (10, .qui), (11, .qui), (12, .qui), (13, .qui), (14, .qui), (15, .qui), (16, .qui), (17, .qui), (18, .qui), (19, .qui)] 33 b3 o4 0 (.agg #[.int .u64 ((hat hs i).client), .int .u64 ((hat hs i).seq), .I ((hat hs i).kind), .string ((hat hs i).key), .slice a4q7 ((hat hs i).data.length) k4q7, .I ((hat hs i).code), .slice a6q7 ((hat hs i).answer.length) k6q7, .slice a7q7 ((hat hs i).names.length) k7q7, .I ((hat hs i).beg), .I ((hat hs i).fin)]) (H.fc 3 rfl) ?_
 refine qK .chn (some 9) (qs [5, 6, 7, 8, 9, 10, 11, 12, 13, 14, 15, 16, 17, 18, 19]) 17 #[.agg #[.int .u64 ((hat hs i).client), .int .u64 ((hat hs i).seq), .I ((hat hs i).kind), .string ((hat hs i).key), .slice a4q7 ((hat hs i).data.length) k4q7, .I ((hat hs i).code), .slice a6q7 ((hat hs i).answer.length) k6q7, .slice a7q7 ((hat hs i).names.length) k7q7, .I ((hat hs i).beg), .I ((hat hs i).fin)]] (open_spec (x := (hat hs i)) (wop_mk (l0 := [.int .u64 ((hat hs i).client)]) (y0 := (hat hs i).client) (l1 := [.int .u64 ((hat hs i).seq)]) (y1 := (hat hs i).seq) (l2 := [.I ((hat hs i).kind)]) (y2 := (hat hs i).kind) (l3 := [.string ((hat hs i).key)]) (y3 := (hat hs i).key) (l4 := [.slice a4q7 ((hat hs i).data.length) k4q7]) (y4 := (hat hs i).data) (l5 := [.I ((hat hs i).code)]) (y5 := (hat hs i).code) (l6 := [.slice a6q7 ((hat hs i).answer.length) k6q7]) (y6 := (hat hs i).answer) (l7 := [.slice a7q7 ((hat hs i).names.length) k7q7]) (y7 := (hat hs i).names) (l8 := [.I ((hat hs i).beg)]) (y8 := (hat hs i).beg) (l9 := [.I ((hat hs i).fin)]) (y9 := (hat hs i).fin) u64a u64a i64a ⟨rfl, by first | assumption | (simp [maxLen]; done) | decide⟩ (H.rp 2 rfl) i64a (H.rp 1 rfl) (H.rp 0 rfl) i64a i64a)) ?_
 rintro _ w18 hE19 rfl
 have H := H.ext hE19
 refine qP 2 (qs [7, 8, 9, 10, 11, 12, 13, 14, 15, 16, 17, 18, 19]) [(0, .I i), (1, .P bh 0), (2, .P bi 0), (11, .bool (!(opn (hat hs i))))] ?_
 refine RW.test (fun b_ => [(0, .I i), (1, .P bh 0), (2, .P bi 0), (11, .bool b_)]) (!(opn (hat hs i))) (fun h20 => ?_) (fun h20 => ?_)
 ·
  replace h20 : (opn (hat hs i)) = false := by revert h20; cases (opn (hat hs i)) <;> simp
  refine qL .qui 12 (qs [8, 9, 10, 11, 12, 13, 14, 15, 16, 17, 18, 19]) 22 bh 0 0 (.slice a hs.length c) (H.fc 5 rfl) ?_
  refine qP 1 (qs [9, 10, 11, 12, 13, 14, 15, 16, 17, 18, 19]) [(1, .P bh 0), (2, .P bi 0), (11, .bool true), (12, .slice a hs.length c), (13, .I i)] ?_
  have hx21 : i < hs.length := by omega
  refine qX .qui 14 (qs [10, 11, 12, 13, 14, 15, 16, 17, 18, 19]) 22 33 (i : Int) wopS (hat hs i) H 4 rfl i (by omega) (hat_some hi) ?_
  intro b22 o23 es24 hr25 H
  obtain ⟨a4q26, k4q26, a6q26, k6q26, a7q26, k7q26, rfl, hf27, hf28, hf29, hf30, hf31, hf32, hf33, hf34, hf35, hf36⟩ := wop_open hr25
  have H := H.add (F := Rp SB [.slice a4q26 ((hat hs i).data.length) k4q26] ((hat hs i).data)) hf31
  have H := H.add (F := Rp SB [.slice a6q26 ((hat hs i).answer.length) k6q26] ((hat hs i).answer)) hf33
  have H := H.add (F := Rp (Shape.slice Shape.str) [.slice a7q26 ((hat hs i).names.length) k7q26] ((hat hs i).names)) hf34
  refine qP 1 (qs [11, 12, 13, 14, 15, 16, 17, 18, 19]) [(1, .P bh 0), (2, .P bi 0), (11, .bool true), (15, .pointer (some ⟨b22, o23 + 9, none⟩))] ?_
  refine qL .qui 16 (qs [12, 13, 14, 15, 16, 17, 18, 19]) 3 b22 (o23 + 9) 9 (.I ((hat hs i).fin)) (H.fc 3 rfl) ?_
  refine qL .qui 17 (qs [13, 14, 15, 16, 17, 18, 19]) 22 bh 0 0 (.slice a hs.length c) (H.fc 9 rfl) ?_
  refine qL .qui 18 (qs [14, 15, 16, 17, 18, 19]) 3 bi 0 0 (.I m) (H.fc 10 rfl) ?_
  have hx37 : m < hs.length := by omega
  refine qX .qui 19 (qs [15, 16, 17, 18, 19]) 22 33 (m : Int) wopS (hat hs m) H 8 rfl m (by omega) (hat_some hmm) ?_
  intro b38 o39 es40 hr41 H
  obtain ⟨a4q42, k4q42, a6q42, k6q42, a7q42, k7q42, rfl, hf43, hf44, hf45, hf46, hf47, hf48, hf49, hf50, hf51, hf52⟩ := wop_open hr41
  have H := H.add (F := Rp SB [.slice a4q42 ((hat hs m).data.length) k4q42] ((hat hs m).data)) hf47
  have H := H.add (F := Rp SB [.slice a6q42 ((hat hs m).answer.length) k6q42] ((hat hs m).answer)) hf49
  have H := H.add (F := Rp (Shape.slice Shape.str) [.slice a7q42 ((hat hs m).names.length) k7q42] ((hat hs m).names)) hf50
  refine qP 1 (qs [16, 17, 18, 19]) [(11, .bool true), (16, .I ((hat hs i).fin)), (20, .pointer (some ⟨b38, o39 + 8, none⟩))] ?_
  refine qL .qui 21 (qs [17, 18, 19]) 3 b38 (o39 + 8) 8 (.I ((hat hs m).beg)) (H.fc 3 rfl) ?_
  refine qF 3 [(4, .bool (decide (((hat hs i).fin : Int) < (hat hs m).beg)))] ?_
  refine qT (.bool (decide (((hat hs i).fin : Int) < (hat hs m).beg))) Tryd.func29 ?_
  exact ⟨_, rfl, H.done, _, rfl, by simp_all⟩
 ·
  replace h20 : (opn (hat hs i)) = true := by revert h20; cases (opn (hat hs i)) <;> simp
  refine qF 13 [(4, .bool false)] ?_
  refine qT (.bool false) Tryd.func29 ?_
  exact ⟨_, rfl, H.done, _, rfl, by simp_all⟩
theorem ix_nopen {S : Nat → Prop} {w : World} {hs : List Wop} {a : Option Addr} {c : Nat} (h : (Shape.slice wopS).rep S w [.slice a hs.length c] hs) {bh : Nat} (hF : (Fc bh 0 [.slice a hs.length c]).p S w) {lf : List Nat} {al : Option Addr} {cl : Nat} (hl : (Shape.slice (Shape.int .i64)).rep S w [.slice al (li lf).length cl] (li lf)) (hlf : ∀ i ∈ lf, i < hs.length) :
 Calls Tryd.prog 34 #[.slice al (li lf).length cl, .func (.func 26) #[] #[.P bh 0]] w (Ret fun v w' => Ext w w' ∧ ∃ j : Int, v = .I j ∧ (0 ≤ j ↔ ∃ i ∈ lf, opn (hat hs i) = false)) := by
 have hlen := Shape.slice_len h
 have hlen2 := Shape.slice_len hl
 have hll := li_len lf
 refine qS (fn := Tryd.f34) (n := 19) (σ := [(0, .slice al (li lf).length cl), (1, .func (.func 26) #[] #[.P bh 0])]) Tryd.func34 ?_
 have H := Hp.startF (w := w) (S := S) (G := [Rp (Shape.slice wopS) [.slice a hs.length c] hs, Fc bh 0 [.slice a hs.length c], Rp (Shape.slice (Shape.int .i64)) [.slice al (li lf).length cl] (li lf)]) (.rp h (.cons hF (.rp hl .nil)))
 refine qR 6 [.c [1, 0, 1, 0], .b 0, .c [2]] [(0, .slice al (li lf).length cl), (1, .func (.func 26) #[] #[.P bh 0]), (7, .I (((li lf).length : Nat) : Int)), (8, .I 0)] ?_
 refine WK.loop (α := Nat) (b := cd Tryd.prog 34 [1, 0, 1, 0, 0]) (by as_aux_lemma => kernel_rfl) (fun k => [(0, .slice al (li lf).length cl), (1, .func (.func 26) #[] #[.P bh 0]), (7, .I (((li lf).length : Nat) : Int)), (8, .I k)]) (fun k w' => Hp w S [] [] [] [Rp (Shape.slice wopS) [.slice a hs.length c] hs, Fc bh 0 [.slice a hs.length c], Rp (Shape.slice (Shape.int .i64)) [.slice al (li lf).length cl] (li lf)] w' ∧ k ≤ lf.length ∧ ∀ i ∈ lf.take k, ¬ (opn (hat hs i) = false)) (fun k => lf.length - k) 0 ⟨H, Nat.zero_le _, fun i hi => (by cases hi)⟩ (rfl) ?_
 rintro k w2 ⟨H, hinv0⟩ hback1
 refine qR 3 [.c [1, 0, 1, 0, 0, 1, 0], .c [1, 0, 1, 0, 0, 2], .l [1, 0, 1, 0, 0], .b 0, .c [2]] [(0, .slice al (li lf).length cl), (1, .func (.func 26) #[] #[.P bh 0]), (7, .I (((li lf).length : Nat) : Int)), (8, .I k), (9, .bool (decide (((k : Int) : Int) < (((li lf).length : Nat) : Int))))] ?_
 refine qD (((k : Int) : Int) < (((li lf).length : Nat) : Int)) (fun h3 => ?_) (fun h3 => ?_)
 ·
  have hk1 : k < lf.length := by omega
  refine qR 6 [.c [1, 0, 1, 0, 0, 2, 0, 0, 1, 0], .c [1, 0, 1, 0, 0, 2, 0, 0, 2], .b 1, .c [1, 0, 1, 0, 0, 3], .l [1, 0, 1, 0, 0], .b 0, .c [2]] [(0, .slice al (li lf).length cl), (1, .func (.func 26) #[] #[.P bh 0]), (5, .I k), (7, .I (((li lf).length : Nat) : Int)), (8, .I k)] ?_
  refine qG (sq 0 6) ?_
  refine qP 3 (sq 3 6) [(0, .slice al (li lf).length cl), (1, .func (.func 26) #[] #[.P bh 0]), (5, .I k), (7, .I (((li lf).length : Nat) : Int)), (8, .I k), (11, .func (.func 26) #[] #[.P bh 0]), (12, .slice al (li lf).length cl), (13, .I k)] ?_
  have hx4 : k < (li lf).length := by omega
  refine qX .seq 14 (sq 4 6) 36 3 (k : Int) (Shape.int .i64) ((lf[k] : Nat) : Int) H 2 rfl k (by omega) (li_some hk1) ?_
  intro b5 o6 es7 hr8 H
  have hb9 := Shape.i64_bd hr8
  obtain ⟨rfl, -⟩ := hr8
  refine qL .seq 15 (sq 5 6) 3 b5 o6 0 (.I ((lf[k] : Nat) : Int)) (H.fc 0 rfl) ?_
  refine qK .seq (some 16) (sq 6 6) 26 #[.I ((lf[k] : Nat) : Int), .P bh 0] (nopen_spec (hs := hs) (H.rp 1 rfl) (H.fact 2 rfl) (hlf _ (List.getElem_mem hk1))) ?_
  rintro _ w10 hE11 ⟨bo13, rfl, hb12⟩
  have H := H.ext hE11
  refine qF 0 [(0, .slice al (li lf).length cl), (1, .func (.func 26) #[] #[.P bh 0]), (5, .I k), (7, .I (((li lf).length : Nat) : Int)), (8, .I k), (16, .bool bo13)] ?_
  refine qC bo13 (fun h14 => ?_) (fun h14 => ?_)
  ·
   have hc2 : (fun i => opn (hat hs i) = false) lf[k] := hb12.1 (by simp [*])
   refine qR 2 [.c [1, 0, 1, 0, 0, 2, 0, 0, 2, 0, 1], .b 1, .c [1, 0, 1, 0, 0, 3], .l [1, 0, 1, 0, 0], .b 0, .c [2]] [(4, .I k)] ?_
   refine qT (.I k) Tryd.func34 ?_
   refine ⟨_, rfl, H.done, _, rfl, ?_⟩
   exact ⟨fun _ => ⟨_, List.getElem_mem hk1, hc2⟩, fun _ => by omega⟩
  ·
   have hc1 : ¬ (fun i => opn (hat hs i) = false) lf[k] := fun q => absurd (hb12.2 q) (by simp [*])
   refine qR 2 [.c [1, 0, 1, 0, 0, 3], .l [1, 0, 1, 0, 0], .b 0, .c [2]] [(0, .slice al (li lf).length cl), (1, .func (.func 26) #[] #[.P bh 0]), (7, .I (((li lf).length : Nat) : Int)), (8, .I k)] ?_
   refine qG (sq 0 2) ?_
   refine qI .seq 18 (sq 1 2) ((k : Int) + 1) ?_
   refine qF 1 [(0, .slice al (li lf).length cl), (1, .func (.func 26) #[] #[.P bh 0]), (7, .I (((li lf).length : Nat) : Int)), (8, .I ((k : Int) + 1))] ?_
   have H := H.pick [1, 2, 3] rfl
   exact WK.back (hback1 (k + 1) _ ⟨H, by omega, none_step hk1 hinv0.2 hc1⟩ (by first | omega | (simp only []; omega))) (by as_aux_lemma => kernel_rfl)
 ·
  refine qR 3 [.c [3]] [(4, .I (-1))] ?_
  refine qT (.I (-1)) Tryd.func34 ?_
  refine ⟨_, rfl, H.done, _, rfl, ?_⟩
  exact ⟨fun q => absurd q (by decide), fun q => absurd q (none_all (by omega) hinv0.2)⟩
theorem ix_nlate {S : Nat → Prop} {w : World} {hs : List Wop} {a : Option Addr} {c : Nat} (h : (Shape.slice wopS).rep S w [.slice a hs.length c] hs) {bh : Nat} (hF : (Fc bh 0 [.slice a hs.length c]).p S w) {bi m : Nat} (hI : (Fc bi 0 [.I m]).p S w) (hmm : m < hs.length) {lf : List Nat} {al : Option Addr} {cl : Nat} (hl : (Shape.slice (Shape.int .i64)).rep S w [.slice al (li lf).length cl] (li lf)) (hlf : ∀ i ∈ lf, i < hs.length) :
 Calls Tryd.prog 34 #[.slice al (li lf).length cl, .func (.func 29) #[] #[.P bh 0, .P bi 0]] w (Ret fun v w' => Ext w w' ∧ ∃ j : Int, v = .I j ∧ (0 ≤ j ↔ ∃ i ∈ lf, opn (hat hs i) = false ∧ (hat hs i).fin < (hat hs m).beg)) := by
 have hlen := Shape.slice_len h
 have hlen2 := Shape.slice_len hl
 have hll := li_len lf
 refine qS (fn := Tryd.f34) (n := 19) (σ := [(0, .slice al (li lf).length cl), (1, .func (.func 29) #[] #[.P bh 0, .P bi 0])]) Tryd.func34 ?_
 have H := Hp.startF (w := w) (S := S) (G := [Rp (Shape.slice wopS) [.slice a hs.length c] hs, Fc bh 0 [.slice a hs.length c], Fc bi 0 [.I m], Rp (Shape.slice (Shape.int .i64)) [.slice al (li lf).length cl] (li lf)]) (.rp h (.cons hF (.cons hI (.rp hl .nil))))
 refine qR 6 [.c [1, 0, 1, 0], .b 0, .c [2]] [(0, .slice al (li lf).length cl), (1, .func (.func 29) #[] #[.P bh 0, .P bi 0]), (7, .I (((li lf).length : Nat) : Int)), (8, .I 0)] ?_
 refine WK.loop (α := Nat) (b := cd Tryd.prog 34 [1, 0, 1, 0, 0]) (by as_aux_lemma => kernel_rfl) (fun k => [(0, .slice al (li lf).length cl), (1, .func (.func 29) #[] #[.P bh 0, .P bi 0]), (7, .I (((li lf).length : Nat) : Int)), (8, .I k)]) (fun k w' => Hp w S [] [] [] [Rp (Shape.slice wopS) [.slice a hs.length c] hs, Fc bh 0 [.slice a hs.length c], Fc bi 0 [.I m], Rp (Shape.slice (Shape.int .i64)) [.slice al (li lf).length cl] (li lf)] w' ∧ k ≤ lf.length ∧ ∀ i ∈ lf.take k, ¬ (opn (hat hs i) = false ∧ (hat hs i).fin < (hat hs m).beg)) (fun k => lf.length - k) 0 ⟨H, Nat.zero_le _, fun i hi => (by cases hi)⟩ (rfl) ?_
 rintro k w2 ⟨H, hinv0⟩ hback1
 refine qR 3 [.c [1, 0, 1, 0, 0, 1, 0], .c [1, 0, 1, 0, 0, 2], .l [1, 0, 1, 0, 0], .b 0, .c [2]] [(0, .slice al (li lf).length cl), (1, .func (.func 29) #[] #[.P bh 0, .P bi 0]), (7, .I (((li lf).length : Nat) : Int)), (8, .I k), (9, .bool (decide (((k : Int) : Int) < (((li lf).length : Nat) : Int))))] ?_
 refine qD (((k : Int) : Int) < (((li lf).length : Nat) : Int)) (fun h3 => ?_) (fun h3 => ?_)
 ·
  have hk1 : k < lf.length := by omega
  refine qR 6 [.c [1, 0, 1, 0, 0, 2, 0, 0, 1, 0], .c [1, 0, 1, 0, 0, 2, 0, 0, 2], .b 1, .c [1, 0, 1, 0, 0, 3], .l [1, 0, 1, 0, 0], .b 0, .c [2]] [(0, .slice al (li lf).length cl), (1, .func (.func 29) #[] #[.P bh 0, .P bi 0]), (5, .I k), (7, .I (((li lf).length : Nat) : Int)), (8, .I k)] ?_
  refine qG (sq 0 6) ?_
  refine qP 3 (sq 3 6) [(0, .slice al (li lf).length cl), (1, .func (.func 29) #[] #[.P bh 0, .P bi 0]), (5, .I k), (7, .I (((li lf).length : Nat) : Int)), (8, .I k), (11, .func (.func 29) #[] #[.P bh 0, .P bi 0]), (12, .slice al (li lf).length cl), (13, .I k)] ?_
  have hx4 : k < (li lf).length := by omega
  refine qX .seq 14 (sq 4 6) 36 3 (k : Int) (Shape.int .i64) ((lf[k] : Nat) : Int) H 3 rfl k (by omega) (li_some hk1) ?_
  intro b5 o6 es7 hr8 H
  have hb9 := Shape.i64_bd hr8
  obtain ⟨rfl, -⟩ := hr8
  refine qL .seq 15 (sq 5 6) 3 b5 o6 0 (.I ((lf[k] : Nat) : Int)) (H.fc 0 rfl) ?_
  refine qK .seq (some 16) (sq 6 6) 29 #[.I ((lf[k] : Nat) : Int), .P bh 0, .P bi 0] (nlate_spec (hs := hs) (H.rp 1 rfl) (H.fact 2 rfl) (H.fact 3 rfl) hmm (hlf _ (List.getElem_mem hk1))) ?_
  rintro _ w10 hE11 ⟨bo13, rfl, hb12⟩
  have H := H.ext hE11
  refine qF 0 [(0, .slice al (li lf).length cl), (1, .func (.func 29) #[] #[.P bh 0, .P bi 0]), (5, .I k), (7, .I (((li lf).length : Nat) : Int)), (8, .I k), (16, .bool bo13)] ?_
  refine qC bo13 (fun h14 => ?_) (fun h14 => ?_)
  ·
   have hc2 : (fun i => opn (hat hs i) = false ∧ (hat hs i).fin < (hat hs m).beg) lf[k] := hb12.1 (by simp [*])
   refine qR 2 [.c [1, 0, 1, 0, 0, 2, 0, 0, 2, 0, 1], .b 1, .c [1, 0, 1, 0, 0, 3], .l [1, 0, 1, 0, 0], .b 0, .c [2]] [(4, .I k)] ?_
   refine qT (.I k) Tryd.func34 ?_
   refine ⟨_, rfl, H.done, _, rfl, ?_⟩
   exact ⟨fun _ => ⟨_, List.getElem_mem hk1, hc2⟩, fun _ => by omega⟩
  ·
   have hc1 : ¬ (fun i => opn (hat hs i) = false ∧ (hat hs i).fin < (hat hs m).beg) lf[k] := fun q => absurd (hb12.2 q) (by simp [*])
   refine qR 2 [.c [1, 0, 1, 0, 0, 3], .l [1, 0, 1, 0, 0], .b 0, .c [2]] [(0, .slice al (li lf).length cl), (1, .func (.func 29) #[] #[.P bh 0, .P bi 0]), (7, .I (((li lf).length : Nat) : Int)), (8, .I k)] ?_
   refine qG (sq 0 2) ?_
   refine qI .seq 18 (sq 1 2) ((k : Int) + 1) ?_
   refine qF 1 [(0, .slice al (li lf).length cl), (1, .func (.func 29) #[] #[.P bh 0, .P bi 0]), (7, .I (((li lf).length : Nat) : Int)), (8, .I ((k : Int) + 1))] ?_
   have H := H.pick [1, 2, 3, 4] rfl
   exact WK.back (hback1 (k + 1) _ ⟨H, by omega, none_step hk1 hinv0.2 hc1⟩ (by first | omega | (simp only []; omega))) (by as_aux_lemma => kernel_rfl)
 ·
  refine qR 3 [.c [3]] [(4, .I (-1))] ?_
  refine qT (.I (-1)) Tryd.func34 ?_
  refine ⟨_, rfl, H.done, _, rfl, ?_⟩
  exact ⟨fun q => absurd q (by decide), fun q => absurd q (none_all (by omega) hinv0.2)⟩
theorem cf_nopen {S : Nat → Prop} {w : World} {hs : List Wop} {a : Option Addr} {c : Nat} (h : (Shape.slice wopS).rep S w [.slice a hs.length c] hs) {bh : Nat} (hF : (Fc bh 0 [.slice a hs.length c]).p S w) {lf : List Nat} {al : Option Addr} {cl : Nat} (hl : (Shape.slice (Shape.int .i64)).rep S w [.slice al (li lf).length cl] (li lf)) (hlf : ∀ i ∈ lf, i < hs.length) :
 Calls Tryd.prog 25 #[.slice al (li lf).length cl, .func (.func 26) #[] #[.P bh 0]] w (Ret fun v w' => Ext w w' ∧ ∃ b : Bool, v = .bool b ∧ (b = true ↔ ∃ i ∈ lf, opn (hat hs i) = false)) := by
 refine qS (fn := Tryd.f25) (n := 9) (σ := [(0, .slice al (li lf).length cl), (1, .func (.func 26) #[] #[.P bh 0])]) Tryd.func25 ?_
 have H := Hp.startF (w := w) (S := S) (G := [Rp (Shape.slice wopS) [.slice a hs.length c] hs, Fc bh 0 [.slice a hs.length c], Rp (Shape.slice (Shape.int .i64)) [.slice al (li lf).length cl] (li lf)]) (.rp h (.cons hF (.rp hl .nil)))
 refine qR 3 [.c [1, 0], .c [2]] [(0, .slice al (li lf).length cl), (1, .func (.func 26) #[] #[.P bh 0])] ?_
 refine qG (sq 0 5) ?_
 refine qP 2 (sq 2 5) [(5, .slice al (li lf).length cl), (6, .func (.func 26) #[] #[.P bh 0])] ?_
 refine qK .seq (some 7) (sq 3 5) 34 #[.slice al (li lf).length cl, .func (.func 26) #[] #[.P bh 0]] (ix_nopen (hs := hs) (H.rp 0 rfl) (H.fact 1 rfl) (H.rp 2 rfl) hlf) ?_
 rintro _ w1 hE2 ⟨j4, rfl, hj3⟩
 have H := H.ext hE2
 refine qF 2 [(4, .bool (decide ((j4 : Int) ≥ 0)))] ?_
 refine qT (.bool (decide ((j4 : Int) ≥ 0))) Tryd.func25 ?_
 exact ⟨_, rfl, H.done, _, rfl, (decide_eq_true_iff).trans hj3⟩
theorem cf_nlate {S : Nat → Prop} {w : World} {hs : List Wop} {a : Option Addr} {c : Nat} (h : (Shape.slice wopS).rep S w [.slice a hs.length c] hs) {bh : Nat} (hF : (Fc bh 0 [.slice a hs.length c]).p S w) {bi m : Nat} (hI : (Fc bi 0 [.I m]).p S w) (hmm : m < hs.length) {lf : List Nat} {al : Option Addr} {cl : Nat} (hl : (Shape.slice (Shape.int .i64)).rep S w [.slice al (li lf).length cl] (li lf)) (hlf : ∀ i ∈ lf, i < hs.length) :
 Calls Tryd.prog 25 #[.slice al (li lf).length cl, .func (.func 29) #[] #[.P bh 0, .P bi 0]] w (Ret fun v w' => Ext w w' ∧ ∃ b : Bool, v = .bool b ∧ (b = true ↔ ∃ i ∈ lf, opn (hat hs i) = false ∧ (hat hs i).fin < (hat hs m).beg)) := by
 refine qS (fn := Tryd.f25) (n := 9) (σ := [(0, .slice al (li lf).length cl), (1, .func (.func 29) #[] #[.P bh 0, .P bi 0])]) Tryd.func25 ?_
 have H := Hp.startF (w := w) (S := S) (G := [Rp (Shape.slice wopS) [.slice a hs.length c] hs, Fc bh 0 [.slice a hs.length c], Fc bi 0 [.I m], Rp (Shape.slice (Shape.int .i64)) [.slice al (li lf).length cl] (li lf)]) (.rp h (.cons hF (.cons hI (.rp hl .nil))))
 refine qR 3 [.c [1, 0], .c [2]] [(0, .slice al (li lf).length cl), (1, .func (.func 29) #[] #[.P bh 0, .P bi 0])] ?_
 refine qG (sq 0 5) ?_
 refine qP 2 (sq 2 5) [(5, .slice al (li lf).length cl), (6, .func (.func 29) #[] #[.P bh 0, .P bi 0])] ?_
 refine qK .seq (some 7) (sq 3 5) 34 #[.slice al (li lf).length cl, .func (.func 29) #[] #[.P bh 0, .P bi 0]] (ix_nlate (hs := hs) (H.rp 0 rfl) (H.fact 1 rfl) (H.fact 2 rfl) hmm (H.rp 3 rfl) hlf) ?_
 rintro _ w1 hE2 ⟨j4, rfl, hj3⟩
 have H := H.ext hE2
 refine qF 2 [(4, .bool (decide ((j4 : Int) ≥ 0)))] ?_
 refine qT (.bool (decide ((j4 : Int) ≥ 0))) Tryd.func25 ?_
 exact ⟨_, rfl, H.done, _, rfl, (decide_eq_true_iff).trans hj3⟩
end Go.Proofs.YtcodkepdolmmbaaDoor
