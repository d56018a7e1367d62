import Derived.Test.YtghnicaefbdjfaaC6
namespace Go.Proofs.Ytghnicaefbdjfaa
open Go.BX

theorem state_zero {S : Nat → Prop} {w : World} {cb : Nat} (hF : (Fc cb 0 [.slice none 0 0, .int .i64 0, .int .i64 0, .int .i64 0, .slice none 0 0]).p S w) (node : Int) :
    Calls Try.prog 23 #[.pointer (some ⟨cb, 0, none⟩), .int .i64 node] w (Ret fun v w' => Ext w w' ∧ v = .int .i64 1) := by
  refine WK.calls1 (fn := Try.f23) (n := 28) (σ := [(0, .pointer (some ⟨cb, 0, none⟩)), (1, .int .i64 node)]) Try.func23 rfl (by as_aux_lemma => kernel_rfl) (by as_aux_lemma => kernel_rfl) (by as_aux_lemma => kernel_rfl) ?_
  have H := Hp.startF (w := w) (S := S) (G := [Fc cb 0 [.slice none 0 0, .int .i64 0, .int .i64 0, .int .i64 0, .slice none 0 0]]) (.cons hF .nil)
  refine WK.run 5 [0, 1] [.code (cd Try.prog 23 [1, 0, 0, 0]), .code (cd Try.prog 23 [1, 0, 0, 1]), .inBlock 0, .code (cd Try.prog 23 [2])] [(0, .pointer (some ⟨cb, 0, none⟩)), (1, .int .i64 node)] (by as_aux_lemma => kernel_rfl) ?_
  refine WK.reg1 (l := sq 0 11) (by as_aux_lemma => kernel_rfl) (by as_aux_lemma => kernel_rfl) ?_
  refine RW.runP 6 [0, 1, 8, 11] (sq 6 11) [(0, .pointer (some ⟨cb, 0, none⟩)), (1, .int .i64 node), (8, .bool false), (11, .pointer (some ⟨cb, 0, none⟩))] (by as_aux_lemma => kernel_rfl) (by as_aux_lemma => kernel_rfl) ?_
  refine RW.load (κ := .seq) (d := some 12) (r := (sq 7 11)) (T := 22) (b := cb) (o' := 0) (k := 0) (v := .slice none 0 0) (by as_aux_lemma => kernel_rfl) (H.fc 0 rfl) rfl (by as_aux_lemma => kernel_rfl) ?_
  refine RW.fin 4 [0, 1, 5] [(0, .pointer (some ⟨cb, 0, none⟩)), (1, .int .i64 node), (5, .bool true)] (by as_aux_lemma => kernel_rfl) ?_
  refine WK.run 3 [4] [.code (cd Try.prog 23 [1, 0, 0, 1, 0, 1]), .inBlock 0, .code (cd Try.prog 23 [2])] [(4, .int .i64 1)] (by as_aux_lemma => kernel_rfl) ?_
  refine WK.ret (v := .int .i64 1) Try.func23 (by as_aux_lemma => kernel_rfl) (by as_aux_lemma => kernel_rfl) ?_
  exact ⟨_, rfl, H.done, rfl⟩

theorem now_zero {S : Nat → Prop} {w : World} {cb : Nat} (hF : (Fc cb 0 [.slice none 0 0, .int .i64 0, .int .i64 0, .int .i64 0, .slice none 0 0]).p S w) (node : Int) :
    Calls Try.prog 11 #[.pointer (some ⟨cb, 0, none⟩), .int .i64 node] w (Ret fun v w' => Ext w w' ∧ v = .int .i64 0) := by
  refine WK.calls1 (fn := Try.f11) (n := 17) (σ := [(0, .pointer (some ⟨cb, 0, none⟩)), (1, .int .i64 node)]) Try.func11 rfl (by as_aux_lemma => kernel_rfl) (by as_aux_lemma => kernel_rfl) (by as_aux_lemma => kernel_rfl) ?_
  have H := Hp.startF (w := w) (S := S) (G := [Fc cb 0 [.slice none 0 0, .int .i64 0, .int .i64 0, .int .i64 0, .slice none 0 0]]) (.cons hF .nil)
  refine WK.run 4 [0, 1] [.code (cd Try.prog 11 [1, 0, 0]), .code (cd Try.prog 11 [1, 0, 1]), .code (cd Try.prog 11 [2])] [(0, .pointer (some ⟨cb, 0, none⟩)), (1, .int .i64 node)] (by as_aux_lemma => kernel_rfl) ?_
  refine WK.reg1 (l := sq 0 4) (by as_aux_lemma => kernel_rfl) (by as_aux_lemma => kernel_rfl) ?_
  refine RW.runP 2 [0, 1, 5, 6] (sq 2 4) [(0, .pointer (some ⟨cb, 0, none⟩)), (1, .int .i64 node), (5, .pointer (some ⟨cb, 0, none⟩)), (6, .int .i64 node)] (by as_aux_lemma => kernel_rfl) (by as_aux_lemma => kernel_rfl) ?_
  refine RW.call (κ := .seq) (d := some 7) (r := (sq 3 4)) (g := 23) (args := #[.pointer (some ⟨cb, 0, none⟩), .int .i64 node]) (by as_aux_lemma => kernel_rfl) (nofun) (state_zero (S := fun _ => True) (H.viewF 0 rfl) node) ?_
  rintro _ w1 hE2 rfl
  have H := H.ext hE2
  refine RW.fin 1 [0, 1, 8] [(0, .pointer (some ⟨cb, 0, none⟩)), (1, .int .i64 node), (8, .bool true)] (by as_aux_lemma => kernel_rfl) ?_
  refine WK.run 3 [4] [.code (cd Try.prog 11 [1, 0, 1, 0, 1]), .code (cd Try.prog 11 [2])] [(4, .int .i64 0)] (by as_aux_lemma => kernel_rfl) ?_
  refine WK.ret (v := .int .i64 0) Try.func11 (by as_aux_lemma => kernel_rfl) (by as_aux_lemma => kernel_rfl) ?_
  exact ⟨_, rfl, H.done, rfl⟩

theorem may_zero {S : Nat → Prop} {w : World} {cb : Nat} (hF : (Fc cb 0 [.slice none 0 0, .int .i64 0, .int .i64 0, .int .i64 0, .slice none 0 0]).p S w) (node : Int) :
    Calls Try.prog 10 #[.pointer (some ⟨cb, 0, none⟩), .int .i64 node] w (Ret fun v w' => Ext w w' ∧ v = .bool false) := by
  refine WK.calls1 (fn := Try.f10) (n := 71) (σ := [(0, .pointer (some ⟨cb, 0, none⟩)), (1, .int .i64 node)]) Try.func10 rfl (by as_aux_lemma => kernel_rfl) (by as_aux_lemma => kernel_rfl) (by as_aux_lemma => kernel_rfl) ?_
  have H := Hp.startF (w := w) (S := S) (G := [Fc cb 0 [.slice none 0 0, .int .i64 0, .int .i64 0, .int .i64 0, .slice none 0 0]]) (.cons hF .nil)
  refine WK.run 4 [0, 1] [.code (cd Try.prog 10 [1, 0, 0]), .code (cd Try.prog 10 [1, 0, 1]), .code (cd Try.prog 10 [2])] [(0, .pointer (some ⟨cb, 0, none⟩)), (1, .int .i64 node)] (by as_aux_lemma => kernel_rfl) ?_
  refine WK.reg1 (l := sq 0 15) (by as_aux_lemma => kernel_rfl) (by as_aux_lemma => kernel_rfl) ?_
  refine RW.runP 2 [0, 1, 6, 7] (sq 2 15) [(0, .pointer (some ⟨cb, 0, none⟩)), (1, .int .i64 node), (6, .pointer (some ⟨cb, 0, none⟩)), (7, .int .i64 node)] (by as_aux_lemma => kernel_rfl) (by as_aux_lemma => kernel_rfl) ?_
  refine RW.call (κ := .seq) (d := some 8) (r := (sq 3 15)) (g := 23) (args := #[.pointer (some ⟨cb, 0, none⟩), .int .i64 node]) (by as_aux_lemma => kernel_rfl) (nofun) (state_zero (S := fun _ => True) (H.viewF 0 rfl) node) ?_
  rintro _ w1 hE2 rfl
  have H := H.ext hE2
  refine RW.fin 12 [0, 1, 20] [(0, .pointer (some ⟨cb, 0, none⟩)), (1, .int .i64 node), (20, .bool true)] (by as_aux_lemma => kernel_rfl) ?_
  refine WK.run 3 [4] [.code (cd Try.prog 10 [1, 0, 1, 0, 1]), .code (cd Try.prog 10 [2])] [(4, .bool false)] (by as_aux_lemma => kernel_rfl) ?_
  refine WK.ret (v := .bool false) Try.func10 (by as_aux_lemma => kernel_rfl) (by as_aux_lemma => kernel_rfl) ?_
  exact ⟨_, rfl, H.done, rfl⟩

theorem tick_zero {S : Nat → Prop} {w : World} {cb : Nat} (hF : (Fc cb 0 [.slice none 0 0, .int .i64 0, .int .i64 0, .int .i64 0, .slice none 0 0]).p S w) (node : Int) :
    Calls Try.prog 9 #[.pointer (some ⟨cb, 0, none⟩), .int .i64 node] w (Ret fun v w' => Ext w w' ∧ v = .int .i64 1) := by
  refine WK.calls1 (fn := Try.f9) (n := 26) (σ := [(0, .pointer (some ⟨cb, 0, none⟩)), (1, .int .i64 node)]) Try.func9 rfl (by as_aux_lemma => kernel_rfl) (by as_aux_lemma => kernel_rfl) (by as_aux_lemma => kernel_rfl) ?_
  have H := Hp.startF (w := w) (S := S) (G := [Fc cb 0 [.slice none 0 0, .int .i64 0, .int .i64 0, .int .i64 0, .slice none 0 0]]) (.cons hF .nil)
  refine WK.run 4 [0, 1] [.code (cd Try.prog 9 [1, 0, 0]), .code (cd Try.prog 9 [1, 0, 1]), .code (cd Try.prog 9 [2])] [(0, .pointer (some ⟨cb, 0, none⟩)), (1, .int .i64 node)] (by as_aux_lemma => kernel_rfl) ?_
  refine WK.reg1 (l := sq 0 4) (by as_aux_lemma => kernel_rfl) (by as_aux_lemma => kernel_rfl) ?_
  refine RW.runP 2 [0, 1, 6, 7] (sq 2 4) [(0, .pointer (some ⟨cb, 0, none⟩)), (1, .int .i64 node), (6, .pointer (some ⟨cb, 0, none⟩)), (7, .int .i64 node)] (by as_aux_lemma => kernel_rfl) (by as_aux_lemma => kernel_rfl) ?_
  refine RW.call (κ := .seq) (d := some 8) (r := (sq 3 4)) (g := 23) (args := #[.pointer (some ⟨cb, 0, none⟩), .int .i64 node]) (by as_aux_lemma => kernel_rfl) (nofun) (state_zero (S := fun _ => True) (H.viewF 0 rfl) node) ?_
  rintro _ w1 hE2 rfl
  have H := H.ext hE2
  refine RW.fin 1 [0, 1, 5] [(0, .pointer (some ⟨cb, 0, none⟩)), (1, .int .i64 node), (5, .int .i64 1)] (by as_aux_lemma => kernel_rfl) ?_
  refine WK.run 5 [4] [.code (cd Try.prog 9 [1, 0, 2, 0, 1]), .code (cd Try.prog 9 [2])] [(4, .int .i64 1)] (by as_aux_lemma => kernel_rfl) ?_
  refine WK.ret (v := .int .i64 1) Try.func9 (by as_aux_lemma => kernel_rfl) (by as_aux_lemma => kernel_rfl) ?_
  exact ⟨_, rfl, H.done, rfl⟩

theorem set_zero {S : Nat → Prop} {w : World} {cb : Nat} (hF : (Fc cb 0 [.slice none 0 0, .int .i64 0, .int .i64 0, .int .i64 0, .slice none 0 0]).p S w) (node : Int) (id : Int) (at_ : Int) :
    Calls Try.prog 12 #[.pointer (some ⟨cb, 0, none⟩), .int .i64 node, .int .i64 id, .int .i64 at_] w (Ret fun v w' => Ext w w' ∧ v = .int .i64 1) := by
  refine WK.calls1 (fn := Try.f12) (n := 51) (σ := [(0, .pointer (some ⟨cb, 0, none⟩)), (1, .int .i64 node), (2, .int .i64 id), (3, .int .i64 at_)]) Try.func12 rfl (by as_aux_lemma => kernel_rfl) (by as_aux_lemma => kernel_rfl) (by as_aux_lemma => kernel_rfl) ?_
  have H := Hp.startF (w := w) (S := S) (G := [Fc cb 0 [.slice none 0 0, .int .i64 0, .int .i64 0, .int .i64 0, .slice none 0 0]]) (.cons hF .nil)
  refine WK.run 4 [0, 1, 2, 3] [.code (cd Try.prog 12 [1, 0, 0]), .code (cd Try.prog 12 [1, 0, 1]), .code (cd Try.prog 12 [2])] [(0, .pointer (some ⟨cb, 0, none⟩)), (1, .int .i64 node), (2, .int .i64 id), (3, .int .i64 at_)] (by as_aux_lemma => kernel_rfl) ?_
  refine WK.reg1 (l := sq 0 4) (by as_aux_lemma => kernel_rfl) (by as_aux_lemma => kernel_rfl) ?_
  refine RW.runP 2 [0, 1, 2, 3, 13, 14] (sq 2 4) [(0, .pointer (some ⟨cb, 0, none⟩)), (1, .int .i64 node), (2, .int .i64 id), (3, .int .i64 at_), (13, .pointer (some ⟨cb, 0, none⟩)), (14, .int .i64 node)] (by as_aux_lemma => kernel_rfl) (by as_aux_lemma => kernel_rfl) ?_
  refine RW.call (κ := .seq) (d := some 15) (r := (sq 3 4)) (g := 23) (args := #[.pointer (some ⟨cb, 0, none⟩), .int .i64 node]) (by as_aux_lemma => kernel_rfl) (nofun) (state_zero (S := fun _ => True) (H.viewF 0 rfl) node) ?_
  rintro _ w1 hE2 rfl
  have H := H.ext hE2
  refine RW.fin 1 [0, 1, 2, 3, 9] [(0, .pointer (some ⟨cb, 0, none⟩)), (1, .int .i64 node), (2, .int .i64 id), (3, .int .i64 at_), (9, .int .i64 1)] (by as_aux_lemma => kernel_rfl) ?_
  refine WK.run 5 [8] [.code (cd Try.prog 12 [1, 0, 2, 0, 1]), .code (cd Try.prog 12 [2])] [(8, .int .i64 1)] (by as_aux_lemma => kernel_rfl) ?_
  refine WK.ret (v := .int .i64 1) Try.func12 (by as_aux_lemma => kernel_rfl) (by as_aux_lemma => kernel_rfl) ?_
  exact ⟨_, rfl, H.done, rfl⟩

theorem set_nil {S : Nat → Prop} {w : World} (node : Int) (id : Int) (at_ : Int) :
    Calls Try.prog 12 #[.pointer none, .int .i64 node, .int .i64 id, .int .i64 at_] w (Ret fun v w' => Ext w w' ∧ v = .int .i64 1) := by
  refine WK.calls1 (fn := Try.f12) (n := 51) (σ := [(0, .pointer none), (1, .int .i64 node), (2, .int .i64 id), (3, .int .i64 at_)]) Try.func12 rfl (by as_aux_lemma => kernel_rfl) (by as_aux_lemma => kernel_rfl) (by as_aux_lemma => kernel_rfl) ?_
  have H := Hp.startF (w := w) (S := S) (G := []) .nil
  refine WK.run 4 [0, 1, 2, 3] [.code (cd Try.prog 12 [1, 0, 0]), .code (cd Try.prog 12 [1, 0, 1]), .code (cd Try.prog 12 [2])] [(0, .pointer none), (1, .int .i64 node), (2, .int .i64 id), (3, .int .i64 at_)] (by as_aux_lemma => kernel_rfl) ?_
  refine WK.reg1 (l := sq 0 4) (by as_aux_lemma => kernel_rfl) (by as_aux_lemma => kernel_rfl) ?_
  refine RW.runP 2 [0, 1, 2, 3, 13, 14] (sq 2 4) [(0, .pointer none), (1, .int .i64 node), (2, .int .i64 id), (3, .int .i64 at_), (13, .pointer none), (14, .int .i64 node)] (by as_aux_lemma => kernel_rfl) (by as_aux_lemma => kernel_rfl) ?_
  refine RW.call (κ := .seq) (d := some 15) (r := (sq 3 4)) (g := 23) (args := #[.pointer none, .int .i64 node]) (by as_aux_lemma => kernel_rfl) (nofun) (state_nil (S := fun _ => True) node) ?_
  rintro _ w1 hE2 rfl
  have H := H.ext hE2
  refine RW.fin 1 [0, 1, 2, 3, 9] [(0, .pointer none), (1, .int .i64 node), (2, .int .i64 id), (3, .int .i64 at_), (9, .int .i64 1)] (by as_aux_lemma => kernel_rfl) ?_
  refine WK.run 5 [8] [.code (cd Try.prog 12 [1, 0, 2, 0, 1]), .code (cd Try.prog 12 [2])] [(8, .int .i64 1)] (by as_aux_lemma => kernel_rfl) ?_
  refine WK.ret (v := .int .i64 1) Try.func12 (by as_aux_lemma => kernel_rfl) (by as_aux_lemma => kernel_rfl) ?_
  exact ⟨_, rfl, H.done, rfl⟩

theorem cancel_zero {S : Nat → Prop} {w : World} {cb : Nat} (hF : (Fc cb 0 [.slice none 0 0, .int .i64 0, .int .i64 0, .int .i64 0, .slice none 0 0]).p S w) (node : Int) (id : Int) :
    Calls Try.prog 18 #[.pointer (some ⟨cb, 0, none⟩), .int .i64 node, .int .i64 id] w (Ret fun v w' => Ext w w' ∧ v = .bool false) := by
  refine WK.calls1 (fn := Try.f18) (n := 36) (σ := [(0, .pointer (some ⟨cb, 0, none⟩)), (1, .int .i64 node), (2, .int .i64 id)]) Try.func18 rfl (by as_aux_lemma => kernel_rfl) (by as_aux_lemma => kernel_rfl) (by as_aux_lemma => kernel_rfl) ?_
  have H := Hp.startF (w := w) (S := S) (G := [Fc cb 0 [.slice none 0 0, .int .i64 0, .int .i64 0, .int .i64 0, .slice none 0 0]]) (.cons hF .nil)
  refine WK.run 4 [0, 1, 2] [.code (cd Try.prog 18 [1, 0, 0]), .code (cd Try.prog 18 [1, 0, 1]), .code (cd Try.prog 18 [2])] [(0, .pointer (some ⟨cb, 0, none⟩)), (1, .int .i64 node), (2, .int .i64 id)] (by as_aux_lemma => kernel_rfl) ?_
  refine WK.reg1 (l := sq 0 4) (by as_aux_lemma => kernel_rfl) (by as_aux_lemma => kernel_rfl) ?_
  refine RW.runP 2 [0, 1, 2, 9, 10] (sq 2 4) [(0, .pointer (some ⟨cb, 0, none⟩)), (1, .int .i64 node), (2, .int .i64 id), (9, .pointer (some ⟨cb, 0, none⟩)), (10, .int .i64 node)] (by as_aux_lemma => kernel_rfl) (by as_aux_lemma => kernel_rfl) ?_
  refine RW.call (κ := .seq) (d := some 11) (r := (sq 3 4)) (g := 23) (args := #[.pointer (some ⟨cb, 0, none⟩), .int .i64 node]) (by as_aux_lemma => kernel_rfl) (nofun) (state_zero (S := fun _ => True) (H.viewF 0 rfl) node) ?_
  rintro _ w1 hE2 rfl
  have H := H.ext hE2
  refine RW.fin 1 [0, 1, 2, 12] [(0, .pointer (some ⟨cb, 0, none⟩)), (1, .int .i64 node), (2, .int .i64 id), (12, .bool true)] (by as_aux_lemma => kernel_rfl) ?_
  refine WK.run 3 [6] [.code (cd Try.prog 18 [1, 0, 1, 0, 1]), .code (cd Try.prog 18 [2])] [(6, .bool false)] (by as_aux_lemma => kernel_rfl) ?_
  refine WK.ret (v := .bool false) Try.func18 (by as_aux_lemma => kernel_rfl) (by as_aux_lemma => kernel_rfl) ?_
  exact ⟨_, rfl, H.done, rfl⟩

theorem cancel_nil {S : Nat → Prop} {w : World} (node : Int) (id : Int) :
    Calls Try.prog 18 #[.pointer none, .int .i64 node, .int .i64 id] w (Ret fun v w' => Ext w w' ∧ v = .bool false) := by
  refine WK.calls1 (fn := Try.f18) (n := 36) (σ := [(0, .pointer none), (1, .int .i64 node), (2, .int .i64 id)]) Try.func18 rfl (by as_aux_lemma => kernel_rfl) (by as_aux_lemma => kernel_rfl) (by as_aux_lemma => kernel_rfl) ?_
  have H := Hp.startF (w := w) (S := S) (G := []) .nil
  refine WK.run 4 [0, 1, 2] [.code (cd Try.prog 18 [1, 0, 0]), .code (cd Try.prog 18 [1, 0, 1]), .code (cd Try.prog 18 [2])] [(0, .pointer none), (1, .int .i64 node), (2, .int .i64 id)] (by as_aux_lemma => kernel_rfl) ?_
  refine WK.reg1 (l := sq 0 4) (by as_aux_lemma => kernel_rfl) (by as_aux_lemma => kernel_rfl) ?_
  refine RW.runP 2 [0, 1, 2, 9, 10] (sq 2 4) [(0, .pointer none), (1, .int .i64 node), (2, .int .i64 id), (9, .pointer none), (10, .int .i64 node)] (by as_aux_lemma => kernel_rfl) (by as_aux_lemma => kernel_rfl) ?_
  refine RW.call (κ := .seq) (d := some 11) (r := (sq 3 4)) (g := 23) (args := #[.pointer none, .int .i64 node]) (by as_aux_lemma => kernel_rfl) (nofun) (state_nil (S := fun _ => True) node) ?_
  rintro _ w1 hE2 rfl
  have H := H.ext hE2
  refine RW.fin 1 [0, 1, 2, 12] [(0, .pointer none), (1, .int .i64 node), (2, .int .i64 id), (12, .bool true)] (by as_aux_lemma => kernel_rfl) ?_
  refine WK.run 3 [6] [.code (cd Try.prog 18 [1, 0, 1, 0, 1]), .code (cd Try.prog 18 [2])] [(6, .bool false)] (by as_aux_lemma => kernel_rfl) ?_
  refine WK.ret (v := .bool false) Try.func18 (by as_aux_lemma => kernel_rfl) (by as_aux_lemma => kernel_rfl) ?_
  exact ⟨_, rfl, H.done, rfl⟩

theorem due_zero {S : Nat → Prop} {w : World} {cb : Nat} (hF : (Fc cb 0 [.slice none 0 0, .int .i64 0, .int .i64 0, .int .i64 0, .slice none 0 0]).p S w) (node : Int) :
    Calls Try.prog 13 #[.pointer (some ⟨cb, 0, none⟩), .int .i64 node] w (Ret fun v w' => Ext w w' ∧ v = .slice none 0 0) := by
  refine WK.calls1 (fn := Try.f13) (n := 64) (σ := [(0, .pointer (some ⟨cb, 0, none⟩)), (1, .int .i64 node)]) Try.func13 rfl (by as_aux_lemma => kernel_rfl) (by as_aux_lemma => kernel_rfl) (by as_aux_lemma => kernel_rfl) ?_
  have H := Hp.startF (w := w) (S := S) (G := [Fc cb 0 [.slice none 0 0, .int .i64 0, .int .i64 0, .int .i64 0, .slice none 0 0]]) (.cons hF .nil)
  refine WK.run 4 [0, 1] [.code (cd Try.prog 13 [1, 0, 0]), .code (cd Try.prog 13 [1, 0, 1]), .code (cd Try.prog 13 [2])] [(0, .pointer (some ⟨cb, 0, none⟩)), (1, .int .i64 node)] (by as_aux_lemma => kernel_rfl) ?_
  refine WK.reg1 (l := sq 0 4) (by as_aux_lemma => kernel_rfl) (by as_aux_lemma => kernel_rfl) ?_
  refine RW.runP 2 [0, 1, 12, 13] (sq 2 4) [(0, .pointer (some ⟨cb, 0, none⟩)), (1, .int .i64 node), (12, .pointer (some ⟨cb, 0, none⟩)), (13, .int .i64 node)] (by as_aux_lemma => kernel_rfl) (by as_aux_lemma => kernel_rfl) ?_
  refine RW.call (κ := .seq) (d := some 14) (r := (sq 3 4)) (g := 23) (args := #[.pointer (some ⟨cb, 0, none⟩), .int .i64 node]) (by as_aux_lemma => kernel_rfl) (nofun) (state_zero (S := fun _ => True) (H.viewF 0 rfl) node) ?_
  rintro _ w1 hE2 rfl
  have H := H.ext hE2
  refine RW.fin 1 [0, 1, 15] [(0, .pointer (some ⟨cb, 0, none⟩)), (1, .int .i64 node), (15, .bool true)] (by as_aux_lemma => kernel_rfl) ?_
  refine WK.run 3 [4] [.code (cd Try.prog 13 [1, 0, 1, 0, 1]), .code (cd Try.prog 13 [2])] [(4, .slice none 0 0)] (by as_aux_lemma => kernel_rfl) ?_
  refine WK.ret (v := .slice none 0 0) Try.func13 (by as_aux_lemma => kernel_rfl) (by as_aux_lemma => kernel_rfl) ?_
  exact ⟨_, rfl, H.done, rfl⟩

theorem due_nil {S : Nat → Prop} {w : World} (node : Int) :
    Calls Try.prog 13 #[.pointer none, .int .i64 node] w (Ret fun v w' => Ext w w' ∧ v = .slice none 0 0) := by
  refine WK.calls1 (fn := Try.f13) (n := 64) (σ := [(0, .pointer none), (1, .int .i64 node)]) Try.func13 rfl (by as_aux_lemma => kernel_rfl) (by as_aux_lemma => kernel_rfl) (by as_aux_lemma => kernel_rfl) ?_
  have H := Hp.startF (w := w) (S := S) (G := []) .nil
  refine WK.run 4 [0, 1] [.code (cd Try.prog 13 [1, 0, 0]), .code (cd Try.prog 13 [1, 0, 1]), .code (cd Try.prog 13 [2])] [(0, .pointer none), (1, .int .i64 node)] (by as_aux_lemma => kernel_rfl) ?_
  refine WK.reg1 (l := sq 0 4) (by as_aux_lemma => kernel_rfl) (by as_aux_lemma => kernel_rfl) ?_
  refine RW.runP 2 [0, 1, 12, 13] (sq 2 4) [(0, .pointer none), (1, .int .i64 node), (12, .pointer none), (13, .int .i64 node)] (by as_aux_lemma => kernel_rfl) (by as_aux_lemma => kernel_rfl) ?_
  refine RW.call (κ := .seq) (d := some 14) (r := (sq 3 4)) (g := 23) (args := #[.pointer none, .int .i64 node]) (by as_aux_lemma => kernel_rfl) (nofun) (state_nil (S := fun _ => True) node) ?_
  rintro _ w1 hE2 rfl
  have H := H.ext hE2
  refine RW.fin 1 [0, 1, 15] [(0, .pointer none), (1, .int .i64 node), (15, .bool true)] (by as_aux_lemma => kernel_rfl) ?_
  refine WK.run 3 [4] [.code (cd Try.prog 13 [1, 0, 1, 0, 1]), .code (cd Try.prog 13 [2])] [(4, .slice none 0 0)] (by as_aux_lemma => kernel_rfl) ?_
  refine WK.ret (v := .slice none 0 0) Try.func13 (by as_aux_lemma => kernel_rfl) (by as_aux_lemma => kernel_rfl) ?_
  exact ⟨_, rfl, H.done, rfl⟩

theorem nobody_spec {S : Nat → Prop} {w : World} (xk : Int) (xn : Int) (xi : Int) (xa : Int) :
    Calls Try.prog 6 #[.agg #[.int .i64 xk, .int .i64 xn, .int .i64 xi, .int .i64 xa]] w (Ret fun v w' => Ext w w' ∧ v = .bool true) := by
  refine WK.calls1 (fn := Try.f6) (n := 65) (σ := [(0, .agg #[.int .i64 xk, .int .i64 xn, .int .i64 xi, .int .i64 xa])]) Try.func6 rfl (by as_aux_lemma => kernel_rfl) (by as_aux_lemma => kernel_rfl) (by as_aux_lemma => kernel_rfl) ?_
  have H := Hp.startF (w := w) (S := S) (G := []) .nil
  refine WK.run 1 [0] [.code (cd Try.prog 6 [0]), .code (cd Try.prog 6 [1])] [(0, .agg #[.int .i64 xk, .int .i64 xn, .int .i64 xi, .int .i64 xa])] (by as_aux_lemma => kernel_rfl) ?_
  refine WK.reg1 (l := sq 0 2) (by as_aux_lemma => kernel_rfl) (by as_aux_lemma => kernel_rfl) ?_
  refine RW.new (κ := .seq) (d := some 1) (r := (sq 1 2)) (o := .cells #[.int .i64 xk, .int .i64 xn, .int .i64 xi, .int .i64 xa] 40 (0, 0)) (v := fun b => .pointer (some ⟨b, 0, none⟩)) (fun b => by as_aux_lemma => kernel_rfl) (nofun) H ?_
  intro b1 w2 H
  refine RW.fin 1 [1] [(1, .pointer (some ⟨b1, 0, none⟩))] (by as_aux_lemma => kernel_rfl) ?_
  refine WK.run 3 [1, 3] [.code (cd Try.prog 6 [2, 0]), .code (cd Try.prog 6 [3])] [(1, .pointer (some ⟨b1, 0, none⟩)), (3, .pointer none)] (by as_aux_lemma => kernel_rfl) ?_
  refine WK.reg1 (l := sq 0 5) (by as_aux_lemma => kernel_rfl) (by as_aux_lemma => kernel_rfl) ?_
  refine RW.runP 2 [1, 7, 8] (sq 2 5) [(1, .pointer (some ⟨b1, 0, none⟩)), (7, .pointer none), (8, .agg #[.slice none 0 0, .int .i64 0, .int .i64 0, .int .i64 0, .slice none 0 0])] (by as_aux_lemma => kernel_rfl) (by as_aux_lemma => kernel_rfl) ?_
  refine RW.new (κ := .seq) (d := some 9) (r := (sq 3 5)) (o := .cells #[.slice none 0 0, .int .i64 0, .int .i64 0, .int .i64 0, .slice none 0 0] 47 (0, 0)) (v := fun b => .pointer (some ⟨b, 0, none⟩)) (fun b => by as_aux_lemma => kernel_rfl) (nofun) H ?_
  intro b3 w4 H
  refine RW.new (κ := .seq) (d := some 10) (r := (sq 4 5)) (o := .cells #[.pointer none, .pointer (some ⟨b3, 0, none⟩)] 23 (0, 0)) (v := fun b => .slice (some ⟨b, 0, none⟩) 2 2) (fun b => by as_aux_lemma => kernel_rfl) (nofun) H ?_
  intro b5 w6 H
  refine RW.fin 1 [1, 4] [(1, .pointer (some ⟨b1, 0, none⟩)), (4, .slice (some ⟨b5, 0, none⟩) 2 2)] (by as_aux_lemma => kernel_rfl) ?_
  refine WK.run 4 [1, 4, 5] [.code (cd Try.prog 6 [3, 0, 1, 0]), .inBlock 0, .code (cd Try.prog 6 [4])] [(1, .pointer (some ⟨b1, 0, none⟩)), (4, .slice (some ⟨b5, 0, none⟩) 2 2), (5, .int .i64 0)] (by as_aux_lemma => kernel_rfl) ?_
  refine WK.loop (α := Nat) (b := cd Try.prog 6 [3, 0, 1, 0, 0]) (by as_aux_lemma => kernel_rfl) (fun i => [(1, .pointer (some ⟨b1, 0, none⟩)), (4, .slice (some ⟨b5, 0, none⟩) 2 2), (5, .int .i64 (i : Int))]) (fun i w' => Hp w S [] [(b5, .cells #[.pointer none, .pointer (some ⟨b3, 0, none⟩)] 23 (0, 0)), (b3, .cells #[.slice none 0 0, .int .i64 0, .int .i64 0, .int .i64 0, .slice none 0 0] 47 (0, 0)), (b1, .cells #[.int .i64 xk, .int .i64 xn, .int .i64 xi, .int .i64 xa] 40 (0, 0))] [] [] w' ∧ (i = 0 ∨ i = 1 ∨ i = 2)) (fun i => 2 - i) 0 ⟨H, by simp⟩ (rfl) ?_
  rintro i w8 ⟨H, hinv0⟩ hback7
  rcases hinv0 with rfl | rfl | rfl
  · skip
    refine WK.run 8 [1, 4, 5] [.code (cd Try.prog 6 [3, 0, 1, 0, 0, 1, 0, 0, 0]), .code (cd Try.prog 6 [3, 0, 1, 0, 0, 1, 0, 0, 1]), .inBlock 1, .code (cd Try.prog 6 [3, 0, 1, 0, 0, 2]), .inLoop (cd Try.prog 6 [3, 0, 1, 0, 0]), .inBlock 0, .code (cd Try.prog 6 [4])] [(1, .pointer (some ⟨b1, 0, none⟩)), (4, .slice (some ⟨b5, 0, none⟩) 2 2), (5, .int .i64 0)] (by as_aux_lemma => kernel_rfl) ?_
    refine WK.reg1 (l := sq 0 5) (by as_aux_lemma => kernel_rfl) (by as_aux_lemma => kernel_rfl) ?_
    refine RW.runP 3 [1, 4, 5, 17] (sq 3 5) [(1, .pointer (some ⟨b1, 0, none⟩)), (4, .slice (some ⟨b5, 0, none⟩) 2 2), (5, .int .i64 0), (17, .pointer (some ⟨b5, 0, none⟩))] (by as_aux_lemma => kernel_rfl) (by as_aux_lemma => kernel_rfl) ?_
    refine RW.load (κ := .seq) (d := some 18) (r := (sq 4 5)) (T := 23) (b := b5) (o' := 0) (k := 0) (v := .pointer none) (by as_aux_lemma => kernel_rfl) (H.cells 0 rfl) rfl (by as_aux_lemma => kernel_rfl) ?_
    refine RW.fin 1 [1, 4, 5, 6] [(1, .pointer (some ⟨b1, 0, none⟩)), (4, .slice (some ⟨b5, 0, none⟩) 2 2), (5, .int .i64 0), (6, .pointer none)] (by as_aux_lemma => kernel_rfl) ?_
    refine WK.run 1 [1, 4, 5, 6] [.code (cd Try.prog 6 [3, 0, 1, 0, 0, 1, 0, 0, 1, 0]), .code (cd Try.prog 6 [3, 0, 1, 0, 0, 1, 0, 0, 2]), .inBlock 1, .code (cd Try.prog 6 [3, 0, 1, 0, 0, 2]), .inLoop (cd Try.prog 6 [3, 0, 1, 0, 0]), .inBlock 0, .code (cd Try.prog 6 [4])] [(1, .pointer (some ⟨b1, 0, none⟩)), (4, .slice (some ⟨b5, 0, none⟩) 2 2), (5, .int .i64 0), (6, .pointer none)] (by as_aux_lemma => kernel_rfl) ?_
    refine WK.reg1 (l := sq 0 45) (by as_aux_lemma => kernel_rfl) (by as_aux_lemma => kernel_rfl) ?_
    refine RW.runP 2 [1, 4, 5, 6, 19, 20] (sq 2 45) [(1, .pointer (some ⟨b1, 0, none⟩)), (4, .slice (some ⟨b5, 0, none⟩) 2 2), (5, .int .i64 0), (6, .pointer none), (19, .pointer none), (20, .pointer (some ⟨b1, 1, none⟩))] (by as_aux_lemma => kernel_rfl) (by as_aux_lemma => kernel_rfl) ?_
    refine RW.load (κ := .seq) (d := some 21) (r := (sq 3 45)) (T := 3) (b := b1) (o' := 1) (k := 1) (v := .int .i64 xn) (by as_aux_lemma => kernel_rfl) (H.cells 2 rfl) rfl (by as_aux_lemma => kernel_rfl) ?_
    refine RW.call (κ := .seq) (d := some 22) (r := (sq 4 45)) (g := 9) (args := #[.pointer none, .int .i64 xn]) (by as_aux_lemma => kernel_rfl) (nofun) (tick_nil (S := fun _ => True) xn) ?_
    rintro _ w9 hE10 rfl
    have H := H.ext hE10
    refine RW.runP 4 [1, 4, 5, 6, 24, 25, 26] (sq 8 45) [(1, .pointer (some ⟨b1, 0, none⟩)), (4, .slice (some ⟨b5, 0, none⟩) 2 2), (5, .int .i64 0), (6, .pointer none), (24, .bool false), (25, .pointer none), (26, .pointer (some ⟨b1, 1, none⟩))] (by as_aux_lemma => kernel_rfl) (by as_aux_lemma => kernel_rfl) ?_
    refine RW.load (κ := .seq) (d := some 27) (r := (sq 9 45)) (T := 3) (b := b1) (o' := 1) (k := 1) (v := .int .i64 xn) (by as_aux_lemma => kernel_rfl) (H.cells 2 rfl) rfl (by as_aux_lemma => kernel_rfl) ?_
    refine RW.call (κ := .seq) (d := some 28) (r := (sq 10 45)) (g := 11) (args := #[.pointer none, .int .i64 xn]) (by as_aux_lemma => kernel_rfl) (nofun) (now_nil (S := fun _ => True) xn) ?_
    rintro _ w11 hE12 rfl
    have H := H.ext hE12
    refine RW.runP 5 [1, 4, 5, 6, 31, 32, 33] (sq 15 45) [(1, .pointer (some ⟨b1, 0, none⟩)), (4, .slice (some ⟨b5, 0, none⟩) 2 2), (5, .int .i64 0), (6, .pointer none), (31, .bool false), (32, .pointer none), (33, .pointer (some ⟨b1, 1, none⟩))] (by as_aux_lemma => kernel_rfl) (by as_aux_lemma => kernel_rfl) ?_
    refine RW.load (κ := .seq) (d := some 34) (r := (sq 16 45)) (T := 3) (b := b1) (o' := 1) (k := 1) (v := .int .i64 xn) (by as_aux_lemma => kernel_rfl) (H.cells 2 rfl) rfl (by as_aux_lemma => kernel_rfl) ?_
    refine RW.call (κ := .seq) (d := some 35) (r := (sq 17 45)) (g := 10) (args := #[.pointer none, .int .i64 xn]) (by as_aux_lemma => kernel_rfl) (nofun) (may_nil (S := fun _ => True) xn) ?_
    rintro _ w13 hE14 rfl
    have H := H.ext hE14
    refine RW.runP 4 [1, 4, 5, 6, 37, 38, 39] (sq 21 45) [(1, .pointer (some ⟨b1, 0, none⟩)), (4, .slice (some ⟨b5, 0, none⟩) 2 2), (5, .int .i64 0), (6, .pointer none), (37, .bool false), (38, .pointer none), (39, .pointer (some ⟨b1, 1, none⟩))] (by as_aux_lemma => kernel_rfl) (by as_aux_lemma => kernel_rfl) ?_
    refine RW.load (κ := .seq) (d := some 40) (r := (sq 22 45)) (T := 3) (b := b1) (o' := 1) (k := 1) (v := .int .i64 xn) (by as_aux_lemma => kernel_rfl) (H.cells 2 rfl) rfl (by as_aux_lemma => kernel_rfl) ?_
    refine RW.runP 1 [1, 4, 5, 6, 37, 38, 40, 41] (sq 23 45) [(1, .pointer (some ⟨b1, 0, none⟩)), (4, .slice (some ⟨b5, 0, none⟩) 2 2), (5, .int .i64 0), (6, .pointer none), (37, .bool false), (38, .pointer none), (40, .int .i64 xn), (41, .pointer (some ⟨b1, 2, none⟩))] (by as_aux_lemma => kernel_rfl) (by as_aux_lemma => kernel_rfl) ?_
    refine RW.load (κ := .seq) (d := some 42) (r := (sq 24 45)) (T := 3) (b := b1) (o' := 2) (k := 2) (v := .int .i64 xi) (by as_aux_lemma => kernel_rfl) (H.cells 2 rfl) rfl (by as_aux_lemma => kernel_rfl) ?_
    refine RW.runP 1 [1, 4, 5, 6, 37, 38, 40, 42, 43] (sq 25 45) [(1, .pointer (some ⟨b1, 0, none⟩)), (4, .slice (some ⟨b5, 0, none⟩) 2 2), (5, .int .i64 0), (6, .pointer none), (37, .bool false), (38, .pointer none), (40, .int .i64 xn), (42, .int .i64 xi), (43, .pointer (some ⟨b1, 3, none⟩))] (by as_aux_lemma => kernel_rfl) (by as_aux_lemma => kernel_rfl) ?_
    refine RW.load (κ := .seq) (d := some 44) (r := (sq 26 45)) (T := 3) (b := b1) (o' := 3) (k := 3) (v := .int .i64 xa) (by as_aux_lemma => kernel_rfl) (H.cells 2 rfl) rfl (by as_aux_lemma => kernel_rfl) ?_
    refine RW.call (κ := .seq) (d := some 45) (r := (sq 27 45)) (g := 12) (args := #[.pointer none, .int .i64 xn, .int .i64 xi, .int .i64 xa]) (by as_aux_lemma => kernel_rfl) (nofun) (set_nil (S := fun _ => True) xn xi xa) ?_
    rintro _ w15 hE16 rfl
    have H := H.ext hE16
    refine RW.runP 5 [1, 4, 5, 6, 48, 49, 50] (sq 32 45) [(1, .pointer (some ⟨b1, 0, none⟩)), (4, .slice (some ⟨b5, 0, none⟩) 2 2), (5, .int .i64 0), (6, .pointer none), (48, .bool false), (49, .pointer none), (50, .pointer (some ⟨b1, 1, none⟩))] (by as_aux_lemma => kernel_rfl) (by as_aux_lemma => kernel_rfl) ?_
    refine RW.load (κ := .seq) (d := some 51) (r := (sq 33 45)) (T := 3) (b := b1) (o' := 1) (k := 1) (v := .int .i64 xn) (by as_aux_lemma => kernel_rfl) (H.cells 2 rfl) rfl (by as_aux_lemma => kernel_rfl) ?_
    refine RW.runP 1 [1, 4, 5, 6, 48, 49, 51, 52] (sq 34 45) [(1, .pointer (some ⟨b1, 0, none⟩)), (4, .slice (some ⟨b5, 0, none⟩) 2 2), (5, .int .i64 0), (6, .pointer none), (48, .bool false), (49, .pointer none), (51, .int .i64 xn), (52, .pointer (some ⟨b1, 2, none⟩))] (by as_aux_lemma => kernel_rfl) (by as_aux_lemma => kernel_rfl) ?_
    refine RW.load (κ := .seq) (d := some 53) (r := (sq 35 45)) (T := 3) (b := b1) (o' := 2) (k := 2) (v := .int .i64 xi) (by as_aux_lemma => kernel_rfl) (H.cells 2 rfl) rfl (by as_aux_lemma => kernel_rfl) ?_
    refine RW.call (κ := .seq) (d := some 54) (r := (sq 36 45)) (g := 18) (args := #[.pointer none, .int .i64 xn, .int .i64 xi]) (by as_aux_lemma => kernel_rfl) (nofun) (cancel_nil (S := fun _ => True) xn xi) ?_
    rintro _ w17 hE18 rfl
    have H := H.ext hE18
    refine RW.runP 4 [1, 4, 5, 56, 57, 58] (sq 40 45) [(1, .pointer (some ⟨b1, 0, none⟩)), (4, .slice (some ⟨b5, 0, none⟩) 2 2), (5, .int .i64 0), (56, .bool false), (57, .pointer none), (58, .pointer (some ⟨b1, 1, none⟩))] (by as_aux_lemma => kernel_rfl) (by as_aux_lemma => kernel_rfl) ?_
    refine RW.load (κ := .seq) (d := some 59) (r := (sq 41 45)) (T := 3) (b := b1) (o' := 1) (k := 1) (v := .int .i64 xn) (by as_aux_lemma => kernel_rfl) (H.cells 2 rfl) rfl (by as_aux_lemma => kernel_rfl) ?_
    refine RW.call (κ := .seq) (d := some 60) (r := (sq 42 45)) (g := 13) (args := #[.pointer none, .int .i64 xn]) (by as_aux_lemma => kernel_rfl) (nofun) (due_nil (S := fun _ => True) xn) ?_
    rintro _ w19 hE20 rfl
    have H := H.ext hE20
    refine RW.fin 3 [1, 4, 5, 63] [(1, .pointer (some ⟨b1, 0, none⟩)), (4, .slice (some ⟨b5, 0, none⟩) 2 2), (5, .int .i64 0), (63, .bool false)] (by as_aux_lemma => kernel_rfl) ?_
    refine WK.run 4 [1, 4, 5] [.inLoop (cd Try.prog 6 [3, 0, 1, 0, 0]), .inBlock 0, .code (cd Try.prog 6 [4])] [(1, .pointer (some ⟨b1, 0, none⟩)), (4, .slice (some ⟨b5, 0, none⟩) 2 2), (5, .int .i64 1)] (by as_aux_lemma => kernel_rfl) ?_
    exact WK.back (hback7 1 _ ⟨H, by simp⟩ (by simp)) (by as_aux_lemma => kernel_rfl)
  · skip
    refine WK.run 8 [1, 4, 5] [.code (cd Try.prog 6 [3, 0, 1, 0, 0, 1, 0, 0, 0]), .code (cd Try.prog 6 [3, 0, 1, 0, 0, 1, 0, 0, 1]), .inBlock 1, .code (cd Try.prog 6 [3, 0, 1, 0, 0, 2]), .inLoop (cd Try.prog 6 [3, 0, 1, 0, 0]), .inBlock 0, .code (cd Try.prog 6 [4])] [(1, .pointer (some ⟨b1, 0, none⟩)), (4, .slice (some ⟨b5, 0, none⟩) 2 2), (5, .int .i64 1)] (by as_aux_lemma => kernel_rfl) ?_
    refine WK.reg1 (l := sq 0 5) (by as_aux_lemma => kernel_rfl) (by as_aux_lemma => kernel_rfl) ?_
    refine RW.runP 3 [1, 4, 5, 17] (sq 3 5) [(1, .pointer (some ⟨b1, 0, none⟩)), (4, .slice (some ⟨b5, 0, none⟩) 2 2), (5, .int .i64 1), (17, .pointer (some ⟨b5, 1, none⟩))] (by as_aux_lemma => kernel_rfl) (by as_aux_lemma => kernel_rfl) ?_
    refine RW.load (κ := .seq) (d := some 18) (r := (sq 4 5)) (T := 23) (b := b5) (o' := 1) (k := 1) (v := .pointer (some ⟨b3, 0, none⟩)) (by as_aux_lemma => kernel_rfl) (H.cells 0 rfl) rfl (by as_aux_lemma => kernel_rfl) ?_
    refine RW.fin 1 [1, 4, 5, 6] [(1, .pointer (some ⟨b1, 0, none⟩)), (4, .slice (some ⟨b5, 0, none⟩) 2 2), (5, .int .i64 1), (6, .pointer (some ⟨b3, 0, none⟩))] (by as_aux_lemma => kernel_rfl) ?_
    refine WK.run 1 [1, 4, 5, 6] [.code (cd Try.prog 6 [3, 0, 1, 0, 0, 1, 0, 0, 1, 0]), .code (cd Try.prog 6 [3, 0, 1, 0, 0, 1, 0, 0, 2]), .inBlock 1, .code (cd Try.prog 6 [3, 0, 1, 0, 0, 2]), .inLoop (cd Try.prog 6 [3, 0, 1, 0, 0]), .inBlock 0, .code (cd Try.prog 6 [4])] [(1, .pointer (some ⟨b1, 0, none⟩)), (4, .slice (some ⟨b5, 0, none⟩) 2 2), (5, .int .i64 1), (6, .pointer (some ⟨b3, 0, none⟩))] (by as_aux_lemma => kernel_rfl) ?_
    refine WK.reg1 (l := sq 0 45) (by as_aux_lemma => kernel_rfl) (by as_aux_lemma => kernel_rfl) ?_
    refine RW.runP 2 [1, 4, 5, 6, 19, 20] (sq 2 45) [(1, .pointer (some ⟨b1, 0, none⟩)), (4, .slice (some ⟨b5, 0, none⟩) 2 2), (5, .int .i64 1), (6, .pointer (some ⟨b3, 0, none⟩)), (19, .pointer (some ⟨b3, 0, none⟩)), (20, .pointer (some ⟨b1, 1, none⟩))] (by as_aux_lemma => kernel_rfl) (by as_aux_lemma => kernel_rfl) ?_
    refine RW.load (κ := .seq) (d := some 21) (r := (sq 3 45)) (T := 3) (b := b1) (o' := 1) (k := 1) (v := .int .i64 xn) (by as_aux_lemma => kernel_rfl) (H.cells 2 rfl) rfl (by as_aux_lemma => kernel_rfl) ?_
    refine RW.call (κ := .seq) (d := some 22) (r := (sq 4 45)) (g := 9) (args := #[.pointer (some ⟨b3, 0, none⟩), .int .i64 xn]) (by as_aux_lemma => kernel_rfl) (nofun) (tick_zero (S := fun _ => True) (H.viewM 1 rfl (by simp)) xn) ?_
    rintro _ w21 hE22 rfl
    have H := H.ext hE22
    refine RW.runP 4 [1, 4, 5, 6, 24, 25, 26] (sq 8 45) [(1, .pointer (some ⟨b1, 0, none⟩)), (4, .slice (some ⟨b5, 0, none⟩) 2 2), (5, .int .i64 1), (6, .pointer (some ⟨b3, 0, none⟩)), (24, .bool false), (25, .pointer (some ⟨b3, 0, none⟩)), (26, .pointer (some ⟨b1, 1, none⟩))] (by as_aux_lemma => kernel_rfl) (by as_aux_lemma => kernel_rfl) ?_
    refine RW.load (κ := .seq) (d := some 27) (r := (sq 9 45)) (T := 3) (b := b1) (o' := 1) (k := 1) (v := .int .i64 xn) (by as_aux_lemma => kernel_rfl) (H.cells 2 rfl) rfl (by as_aux_lemma => kernel_rfl) ?_
    refine RW.call (κ := .seq) (d := some 28) (r := (sq 10 45)) (g := 11) (args := #[.pointer (some ⟨b3, 0, none⟩), .int .i64 xn]) (by as_aux_lemma => kernel_rfl) (nofun) (now_zero (S := fun _ => True) (H.viewM 1 rfl (by simp)) xn) ?_
    rintro _ w23 hE24 rfl
    have H := H.ext hE24
    refine RW.runP 5 [1, 4, 5, 6, 31, 32, 33] (sq 15 45) [(1, .pointer (some ⟨b1, 0, none⟩)), (4, .slice (some ⟨b5, 0, none⟩) 2 2), (5, .int .i64 1), (6, .pointer (some ⟨b3, 0, none⟩)), (31, .bool false), (32, .pointer (some ⟨b3, 0, none⟩)), (33, .pointer (some ⟨b1, 1, none⟩))] (by as_aux_lemma => kernel_rfl) (by as_aux_lemma => kernel_rfl) ?_
    refine RW.load (κ := .seq) (d := some 34) (r := (sq 16 45)) (T := 3) (b := b1) (o' := 1) (k := 1) (v := .int .i64 xn) (by as_aux_lemma => kernel_rfl) (H.cells 2 rfl) rfl (by as_aux_lemma => kernel_rfl) ?_
    refine RW.call (κ := .seq) (d := some 35) (r := (sq 17 45)) (g := 10) (args := #[.pointer (some ⟨b3, 0, none⟩), .int .i64 xn]) (by as_aux_lemma => kernel_rfl) (nofun) (may_zero (S := fun _ => True) (H.viewM 1 rfl (by simp)) xn) ?_
    rintro _ w25 hE26 rfl
    have H := H.ext hE26
    refine RW.runP 4 [1, 4, 5, 6, 37, 38, 39] (sq 21 45) [(1, .pointer (some ⟨b1, 0, none⟩)), (4, .slice (some ⟨b5, 0, none⟩) 2 2), (5, .int .i64 1), (6, .pointer (some ⟨b3, 0, none⟩)), (37, .bool false), (38, .pointer (some ⟨b3, 0, none⟩)), (39, .pointer (some ⟨b1, 1, none⟩))] (by as_aux_lemma => kernel_rfl) (by as_aux_lemma => kernel_rfl) ?_
    refine RW.load (κ := .seq) (d := some 40) (r := (sq 22 45)) (T := 3) (b := b1) (o' := 1) (k := 1) (v := .int .i64 xn) (by as_aux_lemma => kernel_rfl) (H.cells 2 rfl) rfl (by as_aux_lemma => kernel_rfl) ?_
    refine RW.runP 1 [1, 4, 5, 6, 37, 38, 40, 41] (sq 23 45) [(1, .pointer (some ⟨b1, 0, none⟩)), (4, .slice (some ⟨b5, 0, none⟩) 2 2), (5, .int .i64 1), (6, .pointer (some ⟨b3, 0, none⟩)), (37, .bool false), (38, .pointer (some ⟨b3, 0, none⟩)), (40, .int .i64 xn), (41, .pointer (some ⟨b1, 2, none⟩))] (by as_aux_lemma => kernel_rfl) (by as_aux_lemma => kernel_rfl) ?_
    refine RW.load (κ := .seq) (d := some 42) (r := (sq 24 45)) (T := 3) (b := b1) (o' := 2) (k := 2) (v := .int .i64 xi) (by as_aux_lemma => kernel_rfl) (H.cells 2 rfl) rfl (by as_aux_lemma => kernel_rfl) ?_
    refine RW.runP 1 [1, 4, 5, 6, 37, 38, 40, 42, 43] (sq 25 45) [(1, .pointer (some ⟨b1, 0, none⟩)), (4, .slice (some ⟨b5, 0, none⟩) 2 2), (5, .int .i64 1), (6, .pointer (some ⟨b3, 0, none⟩)), (37, .bool false), (38, .pointer (some ⟨b3, 0, none⟩)), (40, .int .i64 xn), (42, .int .i64 xi), (43, .pointer (some ⟨b1, 3, none⟩))] (by as_aux_lemma => kernel_rfl) (by as_aux_lemma => kernel_rfl) ?_
    refine RW.load (κ := .seq) (d := some 44) (r := (sq 26 45)) (T := 3) (b := b1) (o' := 3) (k := 3) (v := .int .i64 xa) (by as_aux_lemma => kernel_rfl) (H.cells 2 rfl) rfl (by as_aux_lemma => kernel_rfl) ?_
    refine RW.call (κ := .seq) (d := some 45) (r := (sq 27 45)) (g := 12) (args := #[.pointer (some ⟨b3, 0, none⟩), .int .i64 xn, .int .i64 xi, .int .i64 xa]) (by as_aux_lemma => kernel_rfl) (nofun) (set_zero (S := fun _ => True) (H.viewM 1 rfl (by simp)) xn xi xa) ?_
    rintro _ w27 hE28 rfl
    have H := H.ext hE28
    refine RW.runP 5 [1, 4, 5, 6, 48, 49, 50] (sq 32 45) [(1, .pointer (some ⟨b1, 0, none⟩)), (4, .slice (some ⟨b5, 0, none⟩) 2 2), (5, .int .i64 1), (6, .pointer (some ⟨b3, 0, none⟩)), (48, .bool false), (49, .pointer (some ⟨b3, 0, none⟩)), (50, .pointer (some ⟨b1, 1, none⟩))] (by as_aux_lemma => kernel_rfl) (by as_aux_lemma => kernel_rfl) ?_
    refine RW.load (κ := .seq) (d := some 51) (r := (sq 33 45)) (T := 3) (b := b1) (o' := 1) (k := 1) (v := .int .i64 xn) (by as_aux_lemma => kernel_rfl) (H.cells 2 rfl) rfl (by as_aux_lemma => kernel_rfl) ?_
    refine RW.runP 1 [1, 4, 5, 6, 48, 49, 51, 52] (sq 34 45) [(1, .pointer (some ⟨b1, 0, none⟩)), (4, .slice (some ⟨b5, 0, none⟩) 2 2), (5, .int .i64 1), (6, .pointer (some ⟨b3, 0, none⟩)), (48, .bool false), (49, .pointer (some ⟨b3, 0, none⟩)), (51, .int .i64 xn), (52, .pointer (some ⟨b1, 2, none⟩))] (by as_aux_lemma => kernel_rfl) (by as_aux_lemma => kernel_rfl) ?_
    refine RW.load (κ := .seq) (d := some 53) (r := (sq 35 45)) (T := 3) (b := b1) (o' := 2) (k := 2) (v := .int .i64 xi) (by as_aux_lemma => kernel_rfl) (H.cells 2 rfl) rfl (by as_aux_lemma => kernel_rfl) ?_
    refine RW.call (κ := .seq) (d := some 54) (r := (sq 36 45)) (g := 18) (args := #[.pointer (some ⟨b3, 0, none⟩), .int .i64 xn, .int .i64 xi]) (by as_aux_lemma => kernel_rfl) (nofun) (cancel_zero (S := fun _ => True) (H.viewM 1 rfl (by simp)) xn xi) ?_
    rintro _ w29 hE30 rfl
    have H := H.ext hE30
    refine RW.runP 4 [1, 4, 5, 56, 57, 58] (sq 40 45) [(1, .pointer (some ⟨b1, 0, none⟩)), (4, .slice (some ⟨b5, 0, none⟩) 2 2), (5, .int .i64 1), (56, .bool false), (57, .pointer (some ⟨b3, 0, none⟩)), (58, .pointer (some ⟨b1, 1, none⟩))] (by as_aux_lemma => kernel_rfl) (by as_aux_lemma => kernel_rfl) ?_
    refine RW.load (κ := .seq) (d := some 59) (r := (sq 41 45)) (T := 3) (b := b1) (o' := 1) (k := 1) (v := .int .i64 xn) (by as_aux_lemma => kernel_rfl) (H.cells 2 rfl) rfl (by as_aux_lemma => kernel_rfl) ?_
    refine RW.call (κ := .seq) (d := some 60) (r := (sq 42 45)) (g := 13) (args := #[.pointer (some ⟨b3, 0, none⟩), .int .i64 xn]) (by as_aux_lemma => kernel_rfl) (nofun) (due_zero (S := fun _ => True) (H.viewM 1 rfl (by simp)) xn) ?_
    rintro _ w31 hE32 rfl
    have H := H.ext hE32
    refine RW.fin 3 [1, 4, 5, 63] [(1, .pointer (some ⟨b1, 0, none⟩)), (4, .slice (some ⟨b5, 0, none⟩) 2 2), (5, .int .i64 1), (63, .bool false)] (by as_aux_lemma => kernel_rfl) ?_
    refine WK.run 4 [1, 4, 5] [.inLoop (cd Try.prog 6 [3, 0, 1, 0, 0]), .inBlock 0, .code (cd Try.prog 6 [4])] [(1, .pointer (some ⟨b1, 0, none⟩)), (4, .slice (some ⟨b5, 0, none⟩) 2 2), (5, .int .i64 2)] (by as_aux_lemma => kernel_rfl) ?_
    exact WK.back (hback7 2 _ ⟨H, by simp⟩ (by simp)) (by as_aux_lemma => kernel_rfl)
  · skip
    refine WK.run 6 [] [.code (cd Try.prog 6 [4, 0]), .code (cd Try.prog 6 [5])] [] (by as_aux_lemma => kernel_rfl) ?_
    refine WK.reg1 (l := sq 0 2) (by as_aux_lemma => kernel_rfl) (by as_aux_lemma => kernel_rfl) ?_
    refine RW.call (κ := .seq) (d := some 64) (r := (sq 1 2)) (g := 8) (args := #[]) (by as_aux_lemma => kernel_rfl) (nofun) (heads_spec (S := fun _ => True)) ?_
    rintro _ w33 hE34 rfl
    have H := H.ext hE34
    refine RW.fin 1 [2] [(2, .bool true)] (by as_aux_lemma => kernel_rfl) ?_
    refine WK.ret (v := .bool true) Try.func6 (by as_aux_lemma => kernel_rfl) (by as_aux_lemma => kernel_rfl) ?_
    exact ⟨_, rfl, H.done, rfl⟩


end Go.Proofs.Ytghnicaefbdjfaa
