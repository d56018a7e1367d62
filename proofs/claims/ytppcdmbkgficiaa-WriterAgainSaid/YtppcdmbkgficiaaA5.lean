import Derived.Test.YtppcdmbkgficiaaA4
namespace Go.Proofs.Ytppcdmbkgficiaa
open Go.BX

theorem written_spec {S : Nat → Prop} {w : World} {bp c : Nat} {a : Option Addr} {n : Nat} (hF : (Fc bp 0 [.slice a n c, .int .i64 0, .bool true, .bool false]).p S w) :
    Calls Try.prog 94 #[.pointer (some ⟨bp, 0, none⟩)] w (Ret fun v w' => Ext w w' ∧ v = .slice a n c) := by
  refine WK.calls1 (fn := Try.f94) (n := 7) (σ := [(0, .pointer (some ⟨bp, 0, none⟩))]) Try.func94 rfl (by as_aux_lemma => kernel_rfl) (by as_aux_lemma => kernel_rfl) (by as_aux_lemma => kernel_rfl) ?_
  have H := Hp.startF (w := w) (S := S) (G := [Fc bp 0 [.slice a n c, .int .i64 0, .bool true, .bool false]]) (.cons hF .nil)
  refine WK.run 3 [0] [.code (cd Try.prog 94 [1, 0]), .code (cd Try.prog 94 [2])] [(0, .pointer (some ⟨bp, 0, none⟩))] (by as_aux_lemma => kernel_rfl) ?_
  refine WK.reg1 (l := sq 0 5) (by as_aux_lemma => kernel_rfl) (by as_aux_lemma => kernel_rfl) ?_
  refine RW.runP 3 [5] (sq 3 5) [(5, .pointer (some ⟨bp, 0, none⟩))] (by as_aux_lemma => kernel_rfl) (by as_aux_lemma => kernel_rfl) ?_
  refine RW.load (κ := .seq) (d := some 6) (r := (sq 4 5)) (T := 23) (b := bp) (o' := 0) (k := 0) (v := .slice a n c) (by as_aux_lemma => kernel_rfl) (H.fc 0 rfl) rfl (by as_aux_lemma => kernel_rfl) ?_
  refine RW.fin 1 [2] [(2, .slice a n c)] (by as_aux_lemma => kernel_rfl) ?_
  refine WK.ret (v := .slice a n c) Try.func94 (by as_aux_lemma => kernel_rfl) (by as_aux_lemma => kernel_rfl) ?_
  exact ⟨_, rfl, H.done, rfl⟩

theorem put_spec {S : Nat → Prop} {w : World} {m : Msg} {ma0 ma1 ma2 ma3 ma4 : Option Addr} {mk0 mk1 mk2 mk3 mk4 : Nat} (hm : MsgOk m) (h0 : (Shape.slice (Shape.int .i64)).rep S w [.slice ma1 m.conf.voters.length mk1] m.conf.voters) (h1 : (Shape.slice (Shape.int .i64)).rep S w [.slice ma2 m.conf.learners.length mk2] m.conf.learners) (h2 : (Shape.slice (Shape.bv .u8 8)).rep S w [.slice ma3 m.data.length mk3] m.data) :
    Calls Try.prog 62 #[.agg (msgV m ma0 mk0 ma1 mk1 ma2 mk2 ma3 mk3 ma4 mk4).toArray] w (Ret fun v w' => Ext w w' ∧ Hp w S [] [] [⟨Shape.bv .u8 8, 5, v, msgE m⟩] [] w') := by
  refine WK.calls1 (fn := Try.f62) (n := 10) (σ := [(0, .agg (msgV m ma0 mk0 ma1 mk1 ma2 mk2 ma3 mk3 ma4 mk4).toArray)]) Try.func62 rfl (by as_aux_lemma => kernel_rfl) (by as_aux_lemma => kernel_rfl) (by as_aux_lemma => kernel_rfl) ?_
  have H := Hp.startF (w := w) (S := S) (G := [Rp (Shape.slice (Shape.int .i64)) [.slice ma1 m.conf.voters.length mk1] m.conf.voters, Rp (Shape.slice (Shape.int .i64)) [.slice ma2 m.conf.learners.length mk2] m.conf.learners, Rp (Shape.slice (Shape.bv .u8 8)) [.slice ma3 m.data.length mk3] m.data]) (.rp h0 (.rp h1 (.rp h2 .nil)))
  refine WK.run 1 [0] [.code (cd Try.prog 62 [0]), .code (cd Try.prog 62 [1])] [(0, .agg (msgV m ma0 mk0 ma1 mk1 ma2 mk2 ma3 mk3 ma4 mk4).toArray)] (by as_aux_lemma => kernel_rfl) ?_
  refine WK.reg1 (l := sq 0 2) (by as_aux_lemma => kernel_rfl) (by as_aux_lemma => kernel_rfl) ?_
  refine RW.new (κ := .seq) (d := some 1) (r := (sq 1 2)) (o := .cells (msgV m ma0 mk0 ma1 mk1 ma2 mk2 ma3 mk3 ma4 mk4).toArray 57 (0, 0)) (v := fun b => .pointer (some ⟨b, 0, none⟩)) (fun b => by as_aux_lemma => kernel_rfl) (nofun) H ?_
  intro b1 w2 H
  refine RW.fin 1 [1] [(1, .pointer (some ⟨b1, 0, none⟩))] (by as_aux_lemma => kernel_rfl) ?_
  refine WK.run 1 [1] [.code (cd Try.prog 62 [1, 0]), .code (cd Try.prog 62 [2])] [(1, .pointer (some ⟨b1, 0, none⟩))] (by as_aux_lemma => kernel_rfl) ?_
  refine WK.reg1 (l := sq 0 2) (by as_aux_lemma => kernel_rfl) (by as_aux_lemma => kernel_rfl) ?_
  have H := H.addRp (Shape.slice (Shape.bv .u8 8)) [.slice none 0 0] [] Shape.slice_nil
  refine RW.call (κ := .seq) (d := some 4) (r := (sq 1 2)) (g := 92) (args := #[.slice none 0 0]) (by as_aux_lemma => kernel_rfl) (nofun) (writer_spec (ys := ([] : List (BitVec 8))) (H.rp 0 rfl) (by first | omega | simp)) ?_
  rintro _ w3 - ⟨b4, a5, c6, rfl, H'⟩
  have H := H.back (M1 := []) (W1 := []) H'
  have H : Hp w S [] [(b4, .cells #[.slice a5 (([] : List (BitVec 8)).length) c6, .int .i64 0, .bool true, .bool false] 183 (0, 0)), (b1, .cells (msgV m ma0 mk0 ma1 mk1 ma2 mk2 ma3 mk3 ma4 mk4).toArray 57 (0, 0))] [⟨Shape.bv .u8 8, 5, .slice a5 (([] : List (BitVec 8)).length) c6, ([] : List (BitVec 8))⟩] [Rp (Shape.slice (Shape.bv .u8 8)) [.slice none 0 0] [], Rp (Shape.slice (Shape.int .i64)) [.slice ma1 m.conf.voters.length mk1] m.conf.voters, Rp (Shape.slice (Shape.int .i64)) [.slice ma2 m.conf.learners.length mk2] m.conf.learners, Rp (Shape.slice (Shape.bv .u8 8)) [.slice ma3 m.data.length mk3] m.data] _ := H
  refine RW.fin 1 [1, 3] [(1, .pointer (some ⟨b1, 0, none⟩)), (3, .pointer (some ⟨b4, 0, none⟩))] (by as_aux_lemma => kernel_rfl) ?_
  refine WK.run 1 [1, 3] [.code (cd Try.prog 62 [2, 0]), .code (cd Try.prog 62 [3])] [(1, .pointer (some ⟨b1, 0, none⟩)), (3, .pointer (some ⟨b4, 0, none⟩))] (by as_aux_lemma => kernel_rfl) ?_
  refine WK.reg1 (l := sq 0 3) (by as_aux_lemma => kernel_rfl) (by as_aux_lemma => kernel_rfl) ?_
  refine RW.runP 1 [1, 3, 5] (sq 1 3) [(1, .pointer (some ⟨b1, 0, none⟩)), (3, .pointer (some ⟨b4, 0, none⟩)), (5, .pointer (some ⟨b4, 0, none⟩))] (by as_aux_lemma => kernel_rfl) (by as_aux_lemma => kernel_rfl) ?_
  refine RW.load (κ := .seq) (d := some 6) (r := (sq 2 3)) (T := 57) (b := b1) (o' := 0) (k := 0) (v := .agg (msgV m ma0 mk0 ma1 mk1 ma2 mk2 ma3 mk3 ma4 mk4).toArray) (by as_aux_lemma => kernel_rfl) (H.cells 1 rfl) rfl (by as_aux_lemma => kernel_rfl) ?_
  refine RW.callS (d := some 7) (r := (sq 3 3)) (g := 93) (args := #[.pointer (some ⟨b4, 0, none⟩), .agg (msgV m ma0 mk0 ma1 mk1 ma2 mk2 ma3 mk3 ma4 mk4).toArray]) (by as_aux_lemma => kernel_rfl) (fields_spec (m := m) hm ((H.lend (M1 := [(b4, .cells #[.slice a5 (([] : List (BitVec 8)).length) c6, .int .i64 0, .bool true, .bool false] 183 (0, 0))]) (W1 := [⟨Shape.bv .u8 8, 5, .slice a5 (([] : List (BitVec 8)).length) c6, ([] : List (BitVec 8))⟩])).pick [1, 2, 3] rfl) (by simp)) ?_
  rintro v8 w7 ⟨a9, c10, H'⟩
  have H := H.back (M1 := [(b4, .cells #[.slice a5 (([] : List (BitVec 8)).length) c6, .int .i64 0, .bool true, .bool false] 183 (0, 0))]) (W1 := [⟨Shape.bv .u8 8, 5, .slice a5 (([] : List (BitVec 8)).length) c6, ([] : List (BitVec 8))⟩]) H'
  have H : Hp w S [] [(b4, .cells #[.slice a9 ((([] : List (BitVec 8)) ++ msgE m).length) c10, .int .i64 0, .bool true, .bool false] 183 (0, 0)), (b1, .cells (msgV m ma0 mk0 ma1 mk1 ma2 mk2 ma3 mk3 ma4 mk4).toArray 57 (0, 0))] [⟨Shape.bv .u8 8, 5, .slice a9 ((([] : List (BitVec 8)) ++ msgE m).length) c10, (([] : List (BitVec 8)) ++ msgE m)⟩] [Rp (Shape.slice (Shape.bv .u8 8)) [.slice none 0 0] [], Rp (Shape.slice (Shape.int .i64)) [.slice ma1 m.conf.voters.length mk1] m.conf.voters, Rp (Shape.slice (Shape.int .i64)) [.slice ma2 m.conf.learners.length mk2] m.conf.learners, Rp (Shape.slice (Shape.bv .u8 8)) [.slice ma3 m.data.length mk3] m.data] _ := H
  refine RW.fin 0 [3] [(3, .pointer (some ⟨b4, 0, none⟩))] (by as_aux_lemma => kernel_rfl) ?_
  refine WK.run 1 [3] [.code (cd Try.prog 62 [3, 0]), .code (cd Try.prog 62 [4])] [(3, .pointer (some ⟨b4, 0, none⟩))] (by as_aux_lemma => kernel_rfl) ?_
  refine WK.reg1 (l := sq 0 3) (by as_aux_lemma => kernel_rfl) (by as_aux_lemma => kernel_rfl) ?_
  refine RW.runP 1 [8] (sq 1 3) [(8, .pointer (some ⟨b4, 0, none⟩))] (by as_aux_lemma => kernel_rfl) (by as_aux_lemma => kernel_rfl) ?_
  refine RW.call (κ := .seq) (d := some 9) (r := (sq 2 3)) (g := 94) (args := #[.pointer (some ⟨b4, 0, none⟩)]) (by as_aux_lemma => kernel_rfl) (nofun) (written_spec (S := fun _ => True) (H.viewM 0 rfl (by simp))) ?_
  rintro _ w11 hE12 rfl
  have H := H.ext hE12
  refine RW.fin 1 [2] [(2, .slice a9 ((([] : List (BitVec 8)) ++ msgE m).length) c10)] (by as_aux_lemma => kernel_rfl) ?_
  refine WK.ret (v := .slice a9 ((([] : List (BitVec 8)) ++ msgE m).length) c10) Try.func62 (by as_aux_lemma => kernel_rfl) (by as_aux_lemma => kernel_rfl) ?_
  have H := H.drop (M' := []) (W' := [⟨Shape.bv .u8 8, 5, .slice a9 ((([] : List (BitVec 8)) ++ msgE m).length) c10, (([] : List (BitVec 8)) ++ msgE m)⟩]) (List.nil_sublist _) (List.Sublist.refl _)
  exact ⟨_, rfl, H.done, H.pick [] rfl⟩

theorem same_spec {S : Nat → Prop} {w : World} {m : Msg} {ma0 ma1 ma2 ma3 ma4 : Option Addr} {mk0 mk1 mk2 mk3 mk4 : Nat} {nma0 nma1 nma2 nma3 nma4 : Option Addr} {nmk0 nmk1 nmk2 nmk3 nmk4 : Nat} (hm : MsgOk m) (h0 : (Shape.slice (Shape.int .i64)).rep S w [.slice ma1 m.conf.voters.length mk1] m.conf.voters) (h1 : (Shape.slice (Shape.int .i64)).rep S w [.slice ma2 m.conf.learners.length mk2] m.conf.learners) (h2 : (Shape.slice (Shape.bv .u8 8)).rep S w [.slice ma3 m.data.length mk3] m.data) (g0 : (Shape.slice (Shape.int .i64)).rep S w [.slice nma1 m.conf.voters.length nmk1] m.conf.voters) (g1 : (Shape.slice (Shape.int .i64)).rep S w [.slice nma2 m.conf.learners.length nmk2] m.conf.learners) (g2 : (Shape.slice (Shape.bv .u8 8)).rep S w [.slice nma3 m.data.length nmk3] m.data) :
    Calls Try.prog 26 #[.agg (msgV m ma0 mk0 ma1 mk1 ma2 mk2 ma3 mk3 ma4 mk4).toArray, .agg (msgV m nma0 nmk0 nma1 nmk1 nma2 nmk2 nma3 nmk3 nma4 nmk4).toArray] w (Ret fun v w' => Ext w w' ∧ v = .bool true) := by
  refine WK.calls1 (fn := Try.f26) (n := 12) (σ := [(0, .agg (msgV m ma0 mk0 ma1 mk1 ma2 mk2 ma3 mk3 ma4 mk4).toArray), (1, .agg (msgV m nma0 nmk0 nma1 nmk1 nma2 nmk2 nma3 nmk3 nma4 nmk4).toArray)]) Try.func26 rfl (by as_aux_lemma => kernel_rfl) (by as_aux_lemma => kernel_rfl) (by as_aux_lemma => kernel_rfl) ?_
  have H := Hp.startF (w := w) (S := S) (G := [Rp (Shape.slice (Shape.int .i64)) [.slice ma1 m.conf.voters.length mk1] m.conf.voters, Rp (Shape.slice (Shape.int .i64)) [.slice ma2 m.conf.learners.length mk2] m.conf.learners, Rp (Shape.slice (Shape.bv .u8 8)) [.slice ma3 m.data.length mk3] m.data, Rp (Shape.slice (Shape.int .i64)) [.slice nma1 m.conf.voters.length nmk1] m.conf.voters, Rp (Shape.slice (Shape.int .i64)) [.slice nma2 m.conf.learners.length nmk2] m.conf.learners, Rp (Shape.slice (Shape.bv .u8 8)) [.slice nma3 m.data.length nmk3] m.data]) (.rp h0 (.rp h1 (.rp h2 (.rp g0 (.rp g1 (.rp g2 .nil))))))
  refine WK.run 1 [0, 1] [.code (cd Try.prog 26 [0]), .code (cd Try.prog 26 [1])] [(0, .agg (msgV m ma0 mk0 ma1 mk1 ma2 mk2 ma3 mk3 ma4 mk4).toArray), (1, .agg (msgV m nma0 nmk0 nma1 nmk1 nma2 nmk2 nma3 nmk3 nma4 nmk4).toArray)] (by as_aux_lemma => kernel_rfl) ?_
  refine WK.reg1 (l := sq 0 3) (by as_aux_lemma => kernel_rfl) (by as_aux_lemma => kernel_rfl) ?_
  refine RW.new (κ := .seq) (d := some 2) (r := (sq 1 3)) (o := .cells (msgV m ma0 mk0 ma1 mk1 ma2 mk2 ma3 mk3 ma4 mk4).toArray 57 (0, 0)) (v := fun b => .pointer (some ⟨b, 0, none⟩)) (fun b => by as_aux_lemma => kernel_rfl) (nofun) H ?_
  intro b1 w2 H
  refine RW.new (κ := .seq) (d := some 3) (r := (sq 2 3)) (o := .cells (msgV m nma0 nmk0 nma1 nmk1 nma2 nmk2 nma3 nmk3 nma4 nmk4).toArray 57 (0, 0)) (v := fun b => .pointer (some ⟨b, 0, none⟩)) (fun b => by as_aux_lemma => kernel_rfl) (nofun) H ?_
  intro b3 w4 H
  refine RW.fin 1 [2, 3] [(2, .pointer (some ⟨b1, 0, none⟩)), (3, .pointer (some ⟨b3, 0, none⟩))] (by as_aux_lemma => kernel_rfl) ?_
  refine WK.run 1 [2, 3] [.code (cd Try.prog 26 [1, 0]), .code (cd Try.prog 26 [2])] [(2, .pointer (some ⟨b1, 0, none⟩)), (3, .pointer (some ⟨b3, 0, none⟩))] (by as_aux_lemma => kernel_rfl) ?_
  refine WK.draw1 8 [(0, .qui), (3, .qui), (1, .chn), (2, .qui), (4, .chn), (5, .qui), (6, .qui), (7, .qui)] [(0, .qui), (3, .qui), (1, .chn), (2, .qui), (4, .chn), (5, .qui), (6, .qui), (7, .qui)] Try_mixed (by as_aux_lemma => kernel_rfl) (by as_aux_lemma => kernel_rfl) (by as_aux_lemma => kernel_rfl) ?_
  have H := H.draw
  generalize ({ w4 with drawn := w4.drawn + 1 } : World) = w5 at H ⊢
  refine RW.load (κ := .qui) (d := some 5) (r := [(3, .qui), (1, .chn), (2, .qui), (4, .chn), (5, .qui), (6, .qui), (7, .qui)]) (T := 57) (b := b1) (o' := 0) (k := 0) (v := .agg (msgV m ma0 mk0 ma1 mk1 ma2 mk2 ma3 mk3 ma4 mk4).toArray) (by as_aux_lemma => kernel_rfl) (H.cells 1 rfl) rfl (by as_aux_lemma => kernel_rfl) ?_
  refine RW.load (κ := .qui) (d := some 8) (r := [(1, .chn), (2, .qui), (4, .chn), (5, .qui), (6, .qui), (7, .qui)]) (T := 57) (b := b3) (o' := 0) (k := 0) (v := .agg (msgV m nma0 nmk0 nma1 nmk1 nma2 nmk2 nma3 nmk3 nma4 nmk4).toArray) (by as_aux_lemma => kernel_rfl) (H.cells 0 rfl) rfl (by as_aux_lemma => kernel_rfl) ?_
  refine RW.call (κ := .chn) (d := some 6) (r := [(2, .qui), (4, .chn), (5, .qui), (6, .qui), (7, .qui)]) (g := 62) (args := #[.agg (msgV m ma0 mk0 ma1 mk1 ma2 mk2 ma3 mk3 ma4 mk4).toArray]) (by as_aux_lemma => kernel_rfl) (nofun) (put_spec (m := m) hm (H.rp 0 rfl) (H.rp 1 rfl) (H.rp 2 rfl)) ?_
  rintro v7 w6 - H'
  have H := H.back (M1 := []) (W1 := []) H'
  obtain ⟨a8, c9, rfl, hc10, hm11⟩ := H.ownForm 0 rfl
  have H : Hp w S [] [(b3, .cells (msgV m nma0 nmk0 nma1 nmk1 nma2 nmk2 nma3 nmk3 nma4 nmk4).toArray 57 (0, 0)), (b1, .cells (msgV m ma0 mk0 ma1 mk1 ma2 mk2 ma3 mk3 ma4 mk4).toArray 57 (0, 0))] [⟨Shape.bv .u8 8, 5, .slice a8 ((msgE m).length) c9, msgE m⟩] [Rp (Shape.slice (Shape.int .i64)) [.slice ma1 m.conf.voters.length mk1] m.conf.voters, Rp (Shape.slice (Shape.int .i64)) [.slice ma2 m.conf.learners.length mk2] m.conf.learners, Rp (Shape.slice (Shape.bv .u8 8)) [.slice ma3 m.data.length mk3] m.data, Rp (Shape.slice (Shape.int .i64)) [.slice nma1 m.conf.voters.length nmk1] m.conf.voters, Rp (Shape.slice (Shape.int .i64)) [.slice nma2 m.conf.learners.length nmk2] m.conf.learners, Rp (Shape.slice (Shape.bv .u8 8)) [.slice nma3 m.data.length nmk3] m.data] _ := H
  refine RW.toStr (κ := .qui) (d := some 7) (r := [(4, .chn), (5, .qui), (6, .qui), (7, .qui)]) (Ts := 23) (Td := 9) 5 (a := a8) (len := ((msgE m).length)) (cap := c9) (xs := msgE m) (by as_aux_lemma => kernel_rfl) (by as_aux_lemma => kernel_rfl) (H.view 0 rfl) ?_
  refine RW.call (κ := .chn) (d := some 9) (r := [(5, .qui), (6, .qui), (7, .qui)]) (g := 62) (args := #[.agg (msgV m nma0 nmk0 nma1 nmk1 nma2 nmk2 nma3 nmk3 nma4 nmk4).toArray]) (by as_aux_lemma => kernel_rfl) (nofun) (put_spec (m := m) hm (H.rp 3 rfl) (H.rp 4 rfl) (H.rp 5 rfl)) ?_
  rintro v13 w12 - H'
  have H := H.back (M1 := []) (W1 := []) H'
  obtain ⟨a14, c15, rfl, hc16, hm17⟩ := H.ownForm 0 rfl
  have H : Hp w S [] [(b3, .cells (msgV m nma0 nmk0 nma1 nmk1 nma2 nmk2 nma3 nmk3 nma4 nmk4).toArray 57 (0, 0)), (b1, .cells (msgV m ma0 mk0 ma1 mk1 ma2 mk2 ma3 mk3 ma4 mk4).toArray 57 (0, 0))] [⟨Shape.bv .u8 8, 5, .slice a14 ((msgE m).length) c15, msgE m⟩, ⟨Shape.bv .u8 8, 5, .slice a8 ((msgE m).length) c9, msgE m⟩] [Rp (Shape.slice (Shape.int .i64)) [.slice ma1 m.conf.voters.length mk1] m.conf.voters, Rp (Shape.slice (Shape.int .i64)) [.slice ma2 m.conf.learners.length mk2] m.conf.learners, Rp (Shape.slice (Shape.bv .u8 8)) [.slice ma3 m.data.length mk3] m.data, Rp (Shape.slice (Shape.int .i64)) [.slice nma1 m.conf.voters.length nmk1] m.conf.voters, Rp (Shape.slice (Shape.int .i64)) [.slice nma2 m.conf.learners.length nmk2] m.conf.learners, Rp (Shape.slice (Shape.bv .u8 8)) [.slice nma3 m.data.length nmk3] m.data] _ := H
  refine RW.toStr (κ := .qui) (d := some 10) (r := [(6, .qui), (7, .qui)]) (Ts := 23) (Td := 9) 5 (a := a14) (len := ((msgE m).length)) (cap := c15) (xs := msgE m) (by as_aux_lemma => kernel_rfl) (by as_aux_lemma => kernel_rfl) (H.view 0 rfl) ?_
  refine RW.fin 2 [4] [(4, .bool ((strOf (msgE m)).toList == (strOf (msgE m)).toList))] (by as_aux_lemma => kernel_rfl) ?_
  refine WK.ret (v := .bool ((strOf (msgE m)).toList == (strOf (msgE m)).toList)) Try.func26 (by as_aux_lemma => kernel_rfl) (by as_aux_lemma => kernel_rfl) ?_
  refine ⟨_, rfl, H.done, ?_⟩
  simp

def nodesL (n : Nat) : List Int := (List.range n).map fun i : Nat => 20 - (i : Int)
theorem nodesL_len (n : Nat) : (nodesL n).length = n := by simp [nodesL]
theorem nodesL_get {n i : Nat} (h : i < n) : (nodesL n)[i]? = some (20 - (i : Int)) := by simp [nodesL, h]
theorem nodesL_succ (n : Nat) : nodesL n ++ [20 - (n : Int)] = nodesL (n + 1) := by simp [nodesL, List.range_succ]
def aW (xs : List (BitVec 8)) (n : Nat) : Wr := beginW 1 1 ⟨#[97]⟩ xs 1 n ⟨0, 1, nodesL n, 0⟩ 100
def ackL (n : Nat) (seen : List Int) : List Int := ((List.range n).map fun k : Nat => (k : Int)).filter fun k => decide (k ∈ seen)
def aD (xs : List (BitVec 8)) (n : Nat) (seen : List Int) (t : Int) : Wr := { aW xs n with acks := ackL n seen, waited := t }
theorem aW_D (xs : List (BitVec 8)) (n : Nat) : aW xs n = aD xs n [] 0 := by
  unfold aD ackL aW beginW
  simp
section
variable {xs : List (BitVec 8)} {n : Nat} {seen : List Int} {t : Int}
theorem aD_heads (hn : 1 ≤ n) : (aD xs n seen t).heads.length = n := by
  show (headsOf _ _ _ (enc xs 1 n)).length = n
  rw [headsOf_len, enc_len hn]
theorem aD_chunks (hn : 1 ≤ n) : (aD xs n seen t).chunks.length = n := enc_len hn
theorem aD_nodes : (aD xs n seen t).nodes.length = n := nodesL_len n
theorem aD_right (hn : 1 ≤ n) : rightW (aD xs n seen t) = true := by
  unfold rightW
  rw [aD_heads hn, aD_chunks hn, aD_nodes]
  exact decide_eq_true ⟨rfl, rfl⟩
theorem aD_cb (h : xs.length ≤ 65536) : ∀ c ∈ (aD xs n seen t).chunks, c.length ≤ 1000000 := fun c hc => by
  have h1 : c.length = lenOf xs.length 1 := enc_all c hc
  have h2 := lenOf_le (size := xs.length) (k := 1) (by decide)
  omega
theorem aD_bd (ht : 0 ≤ t ∧ t ≤ 100) : (0 ≤ (aD xs n seen t).client ∧ (aD xs n seen t).client ≤ 18446744073709551615) ∧ (0 ≤ (aD xs n seen t).seq ∧ (aD xs n seen t).seq ≤ 18446744073709551615) ∧ (aD xs n seen t).key.size ≤ maxLen ∧
    (0 ≤ (aD xs n seen t).waited ∧ (aD xs n seen t).waited ≤ 100) ∧ ((aD xs n seen t).limit = 100) ∧ (aD xs n seen t).done = 0 :=
  ⟨⟨by show (0 : Int) ≤ 1; decide, by show (1 : Int) ≤ _; decide⟩, ⟨by show (0 : Int) ≤ 1; decide, by show (1 : Int) ≤ _; decide⟩, by show (1 : Nat) ≤ maxLen; simp [maxLen], ht, rfl, rfl⟩
theorem aW_head {i : Nat} (hn : 1 ≤ n) (hi : i < n) : ∃ c, c < n ∧ (aW xs n).heads[i]? = some ⟨⟨1, (i : Int), 0⟩, 1, (n : Int), (xs.length : Int), crcF ((enc xs 1 n).getD c [])⟩ := by
  have hl : i < (enc xs 1 n).length := by rw [enc_len hn]; exact hi
  refine ⟨i, hi, ?_⟩
  have h := headsOf_get (id := ⟨1, 0, 0⟩) (size := xs.length) (k := 1) hl
  rw [enc_len hn] at h
  rw [getD_at _ hl]
  exact h
theorem ackL_nodup : (ackL n seen).Nodup := by
  refine List.filter_sublist.nodup ?_
  exact List.Pairwise.map _ (fun a b h e => h (by omega)) List.nodup_range
theorem mem_ackL {x : Int} : x ∈ ackL n seen ↔ (0 ≤ x ∧ x < n) ∧ x ∈ seen := by
  unfold ackL
  rw [List.mem_filter, List.mem_map, decide_eq_true_iff]
  constructor
  · rintro ⟨⟨k, hk, rfl⟩, h⟩
    have := List.mem_range.1 hk
    exact ⟨⟨by omega, by omega⟩, h⟩
  · rintro ⟨⟨h1, h2⟩, h⟩
    exact ⟨⟨x.toNat, List.mem_range.2 (by omega), by omega⟩, h⟩
theorem ackL_len (hd : seen.Nodup) (hs : ∀ x ∈ seen, 0 ≤ x ∧ x < (n : Int)) : (ackL n seen).length = seen.length :=
  ((List.perm_ext_iff_of_nodup ackL_nodup hd).2 fun x => by
    rw [mem_ackL]
    exact ⟨fun h => h.2, fun h => ⟨hs x h, h⟩⟩).length_eq
theorem ackL_same {c : Int} (h : c ∈ seen) : ackL n (seen ++ [c]) = ackL n seen := by
  unfold ackL
  refine List.filter_congr fun k _ => decide_eq_decide.2 ?_
  rw [List.mem_append, List.mem_singleton]
  exact ⟨fun hh => hh.elim id fun e => e ▸ h, .inl⟩
theorem acksOf_aD {c : Nat} (hn : 1 ≤ n) : acksOf (aD xs n seen t) c n = ackL n (seen ++ [(c : Int)]) := by
  unfold acksOf ackL
  refine List.filter_congr fun k hk => ?_
  obtain ⟨q, hq, rfl⟩ := List.mem_map.1 hk
  have hq := List.mem_range.1 hq
  have h1 : ((q : Int) ∈ (aD xs n seen t).acks) ↔ (q : Int) ∈ seen := by
    show (q : Int) ∈ ackL n seen ↔ _
    rw [mem_ackL]
    exact ⟨fun h => h.2, fun h => ⟨⟨by omega, by omega⟩, h⟩⟩
  rw [Bool.eq_iff_iff, Bool.or_eq_true, decide_eq_true_iff, decide_eq_true_iff, decide_eq_true_iff, h1, List.mem_append, List.mem_singleton]
  exact Or.comm
theorem got_aD {c : Nat} {frm : Int} {hd : Hdr} (hn : 1 ≤ n) (hc : c < n) (hf : frm = 20 - (c : Int)) (hh : (aW xs n).heads[c]? = some hd) (hl : (ackL n (seen ++ [(c : Int)])).length ≠ n) :
    gotOf (aD xs n seen 0) 10 frm hd true = (aD xs n (seen ++ [(c : Int)]) 0, 0) := by
  have hL : (aD xs n seen 0).heads.length = n := aD_heads hn
  have hhit : ∀ i < n, hitW (aD xs n seen 0) frm hd i = decide (i = c) := fun i hi => by
    obtain ⟨_, _, h1⟩ := aW_head (xs := xs) hn hi
    obtain ⟨_, _, h2⟩ := aW_head (xs := xs) hn hc
    unfold hitW
    show (decide ((aW xs n).heads[i]? = some hd) && decide ((nodesL n)[i]? = some frm)) = _
    by_cases hic : i = c
    · subst hic
      rw [decide_eq_true hh, decide_eq_true (by rw [nodesL_get hi, hf]), decide_eq_true rfl]
      rfl
    · have : ¬ (aW xs n).heads[i]? = some hd := by
        rw [h1]
        rw [h2] at hh
        intro e
        have e2 := e.trans hh.symm
        injection e2 with e3
        have e4 := congrArg (fun h : Hdr => h.id.index) e3
        simp only at e4
        exact hic (by omega)
      rw [decide_eq_false this, decide_eq_false hic]
      rfl
  unfold gotOf
  rw [if_neg (by rw [aD_right hn]; simp; exact rfl), hL]
  have hfi : (List.range n).find? (hitW (aD xs n seen 0) frm hd) = some c := by
    have := find_hit (W := aD xs n seen 0) (frm := frm) (hd := hd) (i := c) (by rw [hL]; exact hc) (by rw [hhit c hc]; simp) fun j hj => by rw [hhit j (by omega)]; simp; omega
    rwa [hL] at this
  rw [hfi]
  simp only [acksOf_aD hn]
  rw [if_neg (by decide), if_neg hl]
  rfl
theorem tick_aD (hn : 1 ≤ n) (h0 : 0 ≤ t) (h : t + 1 ≤ 100) : tickOf (aD xs n seen t) = (aD xs n seen (t + 1), if (t + 1) % 4 = 0 then msgsOf (aD xs n seen (t + 1)) else [], 0) := by
  have e1 : (aD xs n seen t).waited = t := rfl
  have e2 : (aD xs n seen t).limit = 100 := rfl
  have e3 : (aD xs n seen t).done = 0 := rfl
  unfold tickOf
  rw [if_neg (by rw [aD_right hn, e1, e3]; simp; omega), e1, e2, if_neg (by omega)]
  split <;> rfl
theorem msgsTo_count (W : Wr) : ∀ m, (msgsTo W m).length + (((List.range m).map fun k : Nat => (k : Int)).filter fun k => decide (k ∈ W.acks)).length = m
  | 0 => rfl
  | m + 1 => by
    have ih := msgsTo_count W m
    by_cases h : (m : Int) ∈ W.acks
    · rw [← msgsTo_no h, List.range_succ, List.map_append, List.filter_append, List.length_append]
      simp [h]
      omega
    · rw [← msgsTo_yes h, List.range_succ, List.map_append, List.filter_append, List.length_append, List.length_append]
      simp [h]
      omega
theorem msgs_len (hn : 1 ≤ n) (hd : seen.Nodup) (hs : ∀ x ∈ seen, 0 ≤ x ∧ x < (n : Int)) : (msgsOf (aD xs n seen t)).length + seen.length = n := by
  have h := msgsTo_count (aD xs n seen t) n
  have h2 : (((List.range n).map fun k : Nat => (k : Int)).filter fun k => decide (k ∈ (aD xs n seen t).acks)) = ackL n seen := by
    conv => rhs; unfold ackL
    refine List.filter_congr fun k hk => decide_eq_decide.2 ?_
    show k ∈ ackL n seen ↔ _
    obtain ⟨q, hq, rfl⟩ := List.mem_map.1 hk
    have hq := List.mem_range.1 hq
    rw [mem_ackL]
    exact ⟨fun h => h.2, fun h => ⟨⟨by omega, by omega⟩, h⟩⟩
  rw [h2, ackL_len hd hs] at h
  unfold msgsOf
  rw [aD_heads hn]
  exact h
theorem msgs_get (hn : 1 ≤ n) {i : Nat} (hi : i < (msgsOf (aD xs n seen t)).length) : ∃ cc : Nat, cc < n ∧ (msgsOf (aD xs n seen t))[i]? = some (prepOf (aW xs n) cc) ∧ ¬ (cc : Int) ∈ seen := by
  have hm := List.getElem_mem hi
  have h := hm
  unfold msgsOf msgsTo at h
  obtain ⟨cc, h1, h2⟩ := List.mem_filterMap.1 h
  have h1 := List.mem_range.1 h1
  rw [aD_heads hn] at h1
  split at h2
  · cases h2
  · rename_i hna
    refine ⟨cc, h1, ?_, fun hs => hna ?_⟩
    · rw [List.getElem?_eq_getElem hi]
      exact h2.symm
    · show (cc : Int) ∈ ackL n seen
      exact mem_ackL.2 ⟨⟨by omega, by omega⟩, hs⟩
theorem msgs_all (hn : 1 ≤ n) {i : Nat} (hi : i < n) : (msgsOf (aW xs n))[i]? = some (prepOf (aW xs n) i) := by
  have hL : (aW xs n).heads.length = n := by rw [aW_D]; exact aD_heads hn
  have ha : (aW xs n).acks = [] := rfl
  unfold msgsOf
  rw [hL]
  have : ∀ m, msgsTo (aW xs n) m = (List.range m).map (prepOf (aW xs n)) := by
    intro m
    induction m with
    | zero => rfl
    | succ m ih => rw [← msgsTo_yes (by rw [ha]; simp), ih, List.range_succ, List.map_append]; rfl
  rw [this]
  simp [hi]
theorem msgs_all_len (hn : 1 ≤ n) : (msgsOf (aW xs n)).length = n := by
  have := msgs_len (xs := xs) (seen := []) (t := 0) hn List.nodup_nil (fun x h => by cases h)
  rw [← aW_D] at this
  simpa using this
theorem prep_head {i : Nat} (hn : 1 ≤ n) (hi : i < n) : (aW xs n).heads[i]? = some (prepOf (aW xs n) i).head := by
  have hl : i < (aW xs n).heads.length := by rw [aW_D, aD_heads hn]; exact hi
  rw [List.getElem?_eq_getElem hl]
  show some _ = some ((aW xs n).heads.getD i _)
  rw [getD_at _ hl]
theorem prep_ok {i : Nat} (hn : 1 ≤ n ∧ n ≤ 9) (hx : xs.length ≤ 500) (hi : i < n) : MsgOk (prepOf (aW xs n) i) ∧ (prepOf (aW xs n) i).head.id.index = (i : Int) := by
  obtain ⟨q, hq, hh⟩ := aW_head (xs := xs) hn.1 hi
  have h1 := prep_head (xs := xs) hn.1 hi
  rw [hh] at h1
  have h2 : (prepOf (aW xs n) i).head = ⟨⟨1, (i : Int), 0⟩, 1, (n : Int), (xs.length : Int), crcF ((enc xs 1 n).getD q [])⟩ := (Option.some.inj h1).symm
  have hto : (prepOf (aW xs n) i).to = 20 - (i : Int) := by
    show (nodesL n).getD i 0 = _
    have hl : i < (nodesL n).length := by rw [nodesL_len]; exact hi
    rw [getD_at _ hl]
    have := nodesL_get hi
    rw [List.getElem?_eq_getElem hl] at this
    exact Option.some.inj this
  have hda : (prepOf (aW xs n) i).data.length ≤ 1000000 := by
    show ((enc xs 1 n).getD i []).length ≤ _
    have hl : i < (enc xs 1 n).length := by rw [enc_len hn.1]; exact hi
    rw [getD_at _ hl]
    have h1 : ((enc xs 1 n)[i]).length = lenOf xs.length 1 := enc_all _ (List.getElem_mem hl)
    have h2 := lenOf_le (size := xs.length) (k := 1) (by decide)
    omega
  refine ⟨⟨rfl, rfl, ?_, ?_, by show (0 : Nat) ≤ 1000000; decide, hda, by show (0 : Nat) ≤ 1000000; decide⟩, by rw [h2]⟩
  · rw [hto]
    refine ⟨by show (-9223372036854775808 : Int) ≤ 9 ∧ (9 : Int) ≤ 9223372036854775807; decide, by show (-9223372036854775808 : Int) ≤ 0 ∧ (0 : Int) ≤ 9223372036854775807; decide, by omega, ?_⟩
    have z : (0 : Int) ≤ 0 ∧ (0 : Int) ≤ 18446744073709551615 := by decide
    have y : (-9223372036854775808 : Int) ≤ 0 ∧ (0 : Int) ≤ 9223372036854775807 := by decide
    exact ⟨z, z, z, z, z, z, z, y, y⟩
  · rw [h2]
    unfold HdrOk CidOk
    dsimp only
    omega
end

theorem ack_ne {n c : Nat} {seen : List Int} (hd : seen.Nodup) (hs : ∀ x ∈ seen, 0 ≤ x ∧ x < (n : Int)) (hc : c < n) (hl : seen.length + 1 < n) : (ackL n (seen ++ [(c : Int)])).length ≠ n := by
  by_cases h : (c : Int) ∈ seen
  · rw [ackL_same h, ackL_len hd hs]; omega
  · rw [ackL_len]
    · rw [List.length_append]; simp only [List.length_cons, List.length_nil]; omega
    · exact List.nodup_append.2 ⟨hd, List.pairwise_singleton _ _, fun a ha b hb e => by
        rw [List.mem_singleton] at hb
        exact h (hb ▸ e ▸ ha)⟩
    · intro x hx
      rcases List.mem_append.1 hx with hx | hx
      · exact hs x hx
      · rw [List.mem_singleton] at hx; omega
theorem seen_add {n c : Nat} {seen : List Int} (hd : seen.Nodup) (hs : ∀ x ∈ seen, 0 ≤ x ∧ x < (n : Int)) (hc : c < n) (h : ¬ (c : Int) ∈ seen) : (seen ++ [(c : Int)]).Nodup ∧ ∀ x ∈ seen ++ [(c : Int)], 0 ≤ x ∧ x < (n : Int) := by
  refine ⟨List.nodup_append.2 ⟨hd, List.pairwise_singleton _ _, fun a ha b hb e => by
    rw [List.mem_singleton] at hb
    exact h (hb ▸ e ▸ ha)⟩, fun x hx => ?_⟩
  rcases List.mem_append.1 hx with hx | hx
  · exact hs x hx
  · rw [List.mem_singleton] at hx; omega
theorem aD_same {xs : List (BitVec 8)} {n : Nat} {seen : List Int} {t c : Int} (h : c ∈ seen) : aD xs n (seen ++ [c]) t = aD xs n seen t := by
  unfold aD
  rw [ackL_same h]
theorem rem_run_u64 {P : Program} {w : World} {x y : Int} (hy : 0 < y) (hx : 0 ≤ x) : (Op.intDiv .rem .u64 x y).run P w = .ok (.int .u64 (x % y)) w := by
  have h0 : ¬ y = 0 := by omega
  simp only [Op.intDiv, if_neg h0]
  rw [Int.tmod_eq_emod_of_nonneg hx]; rfl


end Go.Proofs.Ytppcdmbkgficiaa
