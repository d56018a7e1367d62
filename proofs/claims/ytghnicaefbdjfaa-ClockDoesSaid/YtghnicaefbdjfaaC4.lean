import Derived.Test.YtghnicaefbdjfaaC3
namespace Go.Proofs.Ytghnicaefbdjfaa
open Go.BX

structure Tmr where
  when : Int
  id : Int

def tmrS : Shape Tmr := (Shape.pair (Shape.int .i64) (Shape.int .i64)).map fun x => (x.when, x.id)
theorem tmr_open {S : Nat → Prop} {w : World} {cs : List Value} {x : Tmr} (h : tmrS.rep S w cs x) : cs = [.int .i64 x.when, .int .i64 x.id] ∧ ((-9223372036854775808) ≤ x.when ∧ x.when ≤ 9223372036854775807) ∧ ((-9223372036854775808) ≤ x.id ∧ x.id ≤ 9223372036854775807) := by
  obtain ⟨c0, d0, rfl, h0, h⟩ := h
  have h1 := h
  obtain ⟨e0, b0⟩ := h0
  obtain ⟨e1, b1⟩ := h1
  exact ⟨(by simp [e0, e1]), b0, b1⟩
theorem tmr_mk {S : Nat → Prop} {w : World} {y0 : Int} {l0 : List Value} (h0 : (Shape.int .i64).rep S w l0 y0) {y1 : Int} {l1 : List Value} (h1 : (Shape.int .i64).rep S w l1 y1) : tmrS.rep S w (l0 ++ (l1)) ⟨y0, y1⟩ := ⟨_, _, rfl, h0, h1⟩
theorem len64_1 {S : Nat → Prop} {w : World}  :
    Calls Try.prog 46 #[.int .u64 1] w (Ret fun v w' => Ext w w' ∧ v = .int .i64 1) := by
  refine WK.calls1 (fn := Try.f46) (n := 25) (σ := [(0, .int .u64 1)]) Try.func46 rfl (by as_aux_lemma => kernel_rfl) (by as_aux_lemma => kernel_rfl) (by as_aux_lemma => kernel_rfl) ?_
  have H := Hp.startF (w := w) (S := S) (G := []) .nil
  refine WK.run 19 [2] [.code (cd Try.prog 46 [5])] [(2, .int .i64 1)] (by as_aux_lemma => kernel_rfl) ?_
  refine WK.ret (v := .int .i64 1) Try.func46 (by as_aux_lemma => kernel_rfl) (by as_aux_lemma => kernel_rfl) ?_
  exact ⟨_, rfl, H.done, rfl⟩

theorem len_1 {S : Nat → Prop} {w : World}  :
    Calls Try.prog 36 #[.int .u64 1] w (Ret fun v w' => Ext w w' ∧ v = .int .i64 1) := by
  refine WK.calls1 (fn := Try.f36) (n := 8) (σ := [(0, .int .u64 1)]) Try.func36 rfl (by as_aux_lemma => kernel_rfl) (by as_aux_lemma => kernel_rfl) (by as_aux_lemma => kernel_rfl) ?_
  have H := Hp.startF (w := w) (S := S) (G := []) .nil
  refine WK.run 6 [0] [.code (cd Try.prog 36 [2, 0]), .code (cd Try.prog 36 [3])] [(0, .int .u64 1)] (by as_aux_lemma => kernel_rfl) ?_
  refine WK.reg1 (l := sq 0 3) (by as_aux_lemma => kernel_rfl) (by as_aux_lemma => kernel_rfl) ?_
  refine RW.runP 1 [6] (sq 1 3) [(6, .int .u64 1)] (by as_aux_lemma => kernel_rfl) (by as_aux_lemma => kernel_rfl) ?_
  refine RW.call (κ := .seq) (d := some 7) (r := (sq 2 3)) (g := 46) (args := #[.int .u64 1]) (by as_aux_lemma => kernel_rfl) (nofun) (len64_1 (S := fun _ => True)) ?_
  rintro _ w1 hE2 rfl
  have H := H.ext hE2
  refine RW.fin 1 [2] [(2, .int .i64 1)] (by as_aux_lemma => kernel_rfl) ?_
  refine WK.ret (v := .int .i64 1) Try.func36 (by as_aux_lemma => kernel_rfl) (by as_aux_lemma => kernel_rfl) ?_
  exact ⟨_, rfl, H.done, rfl⟩

theorem ins_1 {S : Nat → Prop} {w : World} {a : Option Addr} {c : Nat} :
    Calls Try.prog 37 #[.slice a 1 c, .int .i64 0, .int .i64 1, .func (.func 28) #[] #[]] w (Ret fun v w' => Ext w w' ∧ v = .tuple #[]) := by
  refine WK.calls1 (fn := Try.f37) (n := 53) (σ := [(0, .slice a 1 c), (1, .int .i64 0), (2, .int .i64 1), (3, .func (.func 28) #[] #[])]) Try.func37 rfl (by as_aux_lemma => kernel_rfl) (by as_aux_lemma => kernel_rfl) (by as_aux_lemma => kernel_rfl) ?_
  have H := Hp.startF (w := w) (S := S) (G := []) .nil
  refine WK.run 3 [0, 1, 2, 3, 8] [.code (cd Try.prog 37 [1, 0]), .inBlock 0] [(0, .slice a 1 c), (1, .int .i64 0), (2, .int .i64 1), (3, .func (.func 28) #[] #[]), (8, .int .i64 1)] (by as_aux_lemma => kernel_rfl) ?_
  refine WK.loop (α := Unit) (b := cd Try.prog 37 [1, 0, 0]) (by as_aux_lemma => kernel_rfl) (fun _ => [(0, .slice a 1 c), (1, .int .i64 0), (2, .int .i64 1), (3, .func (.func 28) #[] #[]), (8, .int .i64 1)]) (fun _ w' => Hp w S [] [] [] [] w' ∧ True) (fun _ => 0) (()) ⟨H, trivial⟩ (rfl) ?_
  rintro _ w2 ⟨H, hinv0⟩ hback1
  refine WK.run 5 [] [] [] (by as_aux_lemma => kernel_rfl) ?_
  refine WK.fin (v := .tuple #[]) Try.func37 (by as_aux_lemma => kernel_rfl) ?_
  exact ⟨_, rfl, H.done, rfl⟩

theorem pdq_1 {S : Nat → Prop} {w : World} {a : Option Addr} {c : Nat} :
    Calls Try.prog 35 #[.slice a 1 c, .int .i64 0, .int .i64 1, .int .i64 1, .func (.func 28) #[] #[]] w (Ret fun v w' => Ext w w' ∧ v = .tuple #[]) := by
  refine WK.calls1 (fn := Try.f35) (n := 148) (σ := [(0, .slice a 1 c), (1, .int .i64 0), (2, .int .i64 1), (3, .int .i64 1), (4, .func (.func 28) #[] #[])]) Try.func35 rfl (by as_aux_lemma => kernel_rfl) (by as_aux_lemma => kernel_rfl) (by as_aux_lemma => kernel_rfl) ?_
  have H := Hp.startF (w := w) (S := S) (G := []) .nil
  refine WK.run 5 [0, 1, 2, 3, 4, 10, 11] [.code (cd Try.prog 35 [2, 0]), .inBlock 0] [(0, .slice a 1 c), (1, .int .i64 0), (2, .int .i64 1), (3, .int .i64 1), (4, .func (.func 28) #[] #[]), (10, .bool true), (11, .bool true)] (by as_aux_lemma => kernel_rfl) ?_
  refine WK.loop (α := Unit) (b := cd Try.prog 35 [2, 0, 0]) (by as_aux_lemma => kernel_rfl) (fun _ => [(0, .slice a 1 c), (1, .int .i64 0), (2, .int .i64 1), (3, .int .i64 1), (4, .func (.func 28) #[] #[]), (10, .bool true), (11, .bool true)]) (fun _ w' => Hp w S [] [] [] [] w' ∧ True) (fun _ => 0) (()) ⟨H, trivial⟩ (rfl) ?_
  rintro _ w2 ⟨H, hinv0⟩ hback1
  refine WK.run 8 [0, 1, 2, 4] [.code (cd Try.prog 35 [2, 0, 0, 0, 1, 0, 1, 0, 0]), .code (cd Try.prog 35 [2, 0, 0, 0, 1, 0, 1, 0, 1]), .code (cd Try.prog 35 [2, 0, 0, 0, 2]), .inBlock 1, .inLoop (cd Try.prog 35 [2, 0, 0]), .inBlock 0] [(0, .slice a 1 c), (1, .int .i64 0), (2, .int .i64 1), (4, .func (.func 28) #[] #[])] (by as_aux_lemma => kernel_rfl) ?_
  refine WK.reg1 (l := sq 0 5) (by as_aux_lemma => kernel_rfl) (by as_aux_lemma => kernel_rfl) ?_
  refine RW.runP 4 [26, 27, 28, 29] (sq 4 5) [(26, .slice a 1 c), (27, .int .i64 0), (28, .int .i64 1), (29, .func (.func 28) #[] #[])] (by as_aux_lemma => kernel_rfl) (by as_aux_lemma => kernel_rfl) ?_
  refine RW.call (κ := .seq) (d := some 30) (r := (sq 5 5)) (g := 37) (args := #[.slice a 1 c, .int .i64 0, .int .i64 1, .func (.func 28) #[] #[]]) (by as_aux_lemma => kernel_rfl) (nofun) (ins_1 (S := fun _ => True)) ?_
  rintro _ w3 hE4 rfl
  have H := H.ext hE4
  refine RW.fin 0 [] [] (by as_aux_lemma => kernel_rfl) ?_
  refine WK.ret (v := .tuple #[]) Try.func35 (by as_aux_lemma => kernel_rfl) (by as_aux_lemma => kernel_rfl) ?_
  exact ⟨_, rfl, H.done, rfl⟩

theorem sort_1 {S : Nat → Prop} {w : World} {a : Option Addr} {c : Nat} :
    Calls Try.prog 33 #[.slice a 1 c, .func (.func 28) #[] #[]] w (Ret fun v w' => Ext w w' ∧ v = .tuple #[]) := by
  refine WK.calls1 (fn := Try.f33) (n := 14) (σ := [(0, .slice a 1 c), (1, .func (.func 28) #[] #[])]) Try.func33 rfl (by as_aux_lemma => kernel_rfl) (by as_aux_lemma => kernel_rfl) (by as_aux_lemma => kernel_rfl) ?_
  have H := Hp.startF (w := w) (S := S) (G := []) .nil
  refine WK.run 2 [0, 1, 4] [.code (cd Try.prog 33 [1])] [(0, .slice a 1 c), (1, .func (.func 28) #[] #[]), (4, .int .i64 1)] (by as_aux_lemma => kernel_rfl) ?_
  refine WK.reg1 (l := sq 0 7) (by as_aux_lemma => kernel_rfl) (by as_aux_lemma => kernel_rfl) ?_
  refine RW.runP 4 [1, 7, 8, 10] (sq 4 7) [(1, .func (.func 28) #[] #[]), (7, .slice a 1 c), (8, .int .i64 1), (10, .int .u64 1)] (by as_aux_lemma => kernel_rfl) (by as_aux_lemma => kernel_rfl) ?_
  refine RW.call (κ := .seq) (d := some 11) (r := (sq 5 7)) (g := 36) (args := #[.int .u64 1]) (by as_aux_lemma => kernel_rfl) (nofun) (len_1 (S := fun _ => True)) ?_
  rintro _ w1 hE2 rfl
  have H := H.ext hE2
  refine RW.runP 1 [7, 8, 11, 12] (sq 6 7) [(7, .slice a 1 c), (8, .int .i64 1), (11, .int .i64 1), (12, .func (.func 28) #[] #[])] (by as_aux_lemma => kernel_rfl) (by as_aux_lemma => kernel_rfl) ?_
  refine RW.call (κ := .seq) (d := some 13) (r := (sq 7 7)) (g := 35) (args := #[.slice a 1 c, .int .i64 0, .int .i64 1, .int .i64 1, .func (.func 28) #[] #[]]) (by as_aux_lemma => kernel_rfl) (nofun) (pdq_1 (S := fun _ => True)) ?_
  rintro _ w3 hE4 rfl
  have H := H.ext hE4
  refine RW.fin 0 [] [] (by as_aux_lemma => kernel_rfl) ?_
  refine WK.fin (v := .tuple #[]) Try.func33 (by as_aux_lemma => kernel_rfl) ?_
  exact ⟨_, rfl, H.done, rfl⟩

theorem sorted_1 {S : Nat → Prop} {w : World} {a : Option Addr} {c : Nat} :
    Calls Try.prog 27 #[.slice a 1 c, .func (.func 28) #[] #[]] w (Ret fun v w' => Ext w w' ∧ v = .slice a 1 c) := by
  refine WK.calls1 (fn := Try.f27) (n := 9) (σ := [(0, .slice a 1 c), (1, .func (.func 28) #[] #[])]) Try.func27 rfl (by as_aux_lemma => kernel_rfl) (by as_aux_lemma => kernel_rfl) (by as_aux_lemma => kernel_rfl) ?_
  have H := Hp.startF (w := w) (S := S) (G := []) .nil
  refine WK.run 3 [0, 1] [.code (cd Try.prog 27 [1, 0]), .code (cd Try.prog 27 [2])] [(0, .slice a 1 c), (1, .func (.func 28) #[] #[])] (by as_aux_lemma => kernel_rfl) ?_
  refine WK.reg1 (l := sq 0 3) (by as_aux_lemma => kernel_rfl) (by as_aux_lemma => kernel_rfl) ?_
  refine RW.runP 2 [0, 5, 6] (sq 2 3) [(0, .slice a 1 c), (5, .slice a 1 c), (6, .func (.func 28) #[] #[])] (by as_aux_lemma => kernel_rfl) (by as_aux_lemma => kernel_rfl) ?_
  refine RW.call (κ := .seq) (d := some 7) (r := (sq 3 3)) (g := 33) (args := #[.slice a 1 c, .func (.func 28) #[] #[]]) (by as_aux_lemma => kernel_rfl) (nofun) (sort_1 (S := fun _ => True)) ?_
  rintro _ w1 hE2 rfl
  have H := H.ext hE2
  refine RW.fin 0 [0] [(0, .slice a 1 c)] (by as_aux_lemma => kernel_rfl) ?_
  refine WK.run 2 [4] [.code (cd Try.prog 27 [3])] [(4, .slice a 1 c)] (by as_aux_lemma => kernel_rfl) ?_
  refine WK.ret (v := .slice a 1 c) Try.func27 (by as_aux_lemma => kernel_rfl) (by as_aux_lemma => kernel_rfl) ?_
  exact ⟨_, rfl, H.done, rfl⟩


end Go.Proofs.Ytghnicaefbdjfaa
