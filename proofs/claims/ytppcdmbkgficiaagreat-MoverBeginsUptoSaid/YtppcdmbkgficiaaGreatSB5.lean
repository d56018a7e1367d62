import Derived.Test.YtppcdmbkgficiaaGreatSBxB
import Derived.Test.YtppcdmbkgficiaaGreatSB3
import Derived.Test.YtppcdmbkgficiaaGreatSV4
namespace Go.Proofs.YtppcdmbkgficiaaGreat
open Go.BX
set_option maxHeartbeats 2000000 in
theorem mbegin_bad {S : Nat → Prop} {w : World} {O : ObjD} {os : List Value} (hO : objS.rep S w os O) (k n epoch limit : Int) {to : List Int} {ta : Option Addr} {tc : Nat} (hto : (Shape.slice (Shape.int .i64)).rep S w [.slice ta to.length tc] to) (hb : ¬ okB O k n limit) :
 Calls Tryz.prog 10 #[.agg os.toArray, .I k, .I n, .slice ta to.length tc, .int .u64 epoch, .I limit] w (Ret fun v w' => Ext w w' ∧ v = .tuple #[.agg (shfZ).toArray, .slice none 0 0, .I 2]) := by
 obtain ⟨a, b, rfl, d, _, _, _, _, e⟩ := obj_open hO
 refine uS1 Tryz.func10 ?_
 have H := Hp.startF (.rp e (.rp hto .nil))
 refine uR 1 [.c [0], .c [1]] ?_
 refine qG (sq 0 4) ?_
 refine uC ((objV O a b).toArray) 26 H ?_
 intro _ _ H
 refine uC ((shfZ).toArray) 46 H ?_
 intro _ _ H
 refine uF 2 ?_
 refine uR 1 [.c [1, 0], .c [2]] ?_
 refine qG (sq 0 13) ?_
 refine uV 26 0 (H.cells 1 rfl) ?_
 refine uP 3 ?_
 refine uK (fbegin_bad (O := O) (obj_mk (y0 := O.key) (y1 := O.version) (y2 := O.size) (y3 := O.sum) (y4 := O.group) (y5 := O.epoch) (y6 := O.nodes) ⟨rfl, d⟩ u64a i64a Shape.bv_mk i64a u64a (H.rp 0 rfl)) k n limit (hb)) ?_
 rintro _ _ f rfl
 have H := H.ext f
 refine uP 4 ?_
 refine uC ((rdZ).toArray) 30 H ?_
 intro _ _ H
 refine uW 30 0 (rdZ).toArray H 0 rfl ?_
 intro _ H
 refine uF 2 ?_
 refine uR 5 [.c [2, 0, 1, 0, 0], .c [2, 0, 1, 0, 1], .c [3]] ?_
 refine qG (sq 0 5) ?_
 refine uP 2 ?_
 refine uW 46 0 (shfZ).toArray H 1 rfl ?_
 intro _ H
 refine uF 2 ?_
 refine qRB (.tuple #[.agg (shfZ).toArray, .slice none 0 0, .I 2]) Tryz.func10 (v3 (.cell 12 46) (.tmp 13) (.tmp 14) (vC (H.cells 1 rfl)) vT vT) ?_
 exact ⟨_, rfl, H.done, rfl⟩
set_option maxHeartbeats 2000000 in
theorem mbegin_few {S : Nat → Prop} {w : World} {O : ObjD} {os : List Value} (hO : objS.rep S w os O) (k n epoch limit : Int) {to : List Int} {ta : Option Addr} {tc : Nat} (hto : (Shape.slice (Shape.int .i64)).rep S w [.slice ta to.length tc] to) (hb : okB O k n limit) (htl : (to.length : Int) ≠ n) :
 Calls Tryz.prog 10 #[.agg os.toArray, .I k, .I n, .slice ta to.length tc, .int .u64 epoch, .I limit] w (Ret fun v w' => Ext w w' ∧ v = .tuple #[.agg (shfZ).toArray, .slice none 0 0, .I 2]) := by
 obtain ⟨s, t, rfl, u, _, _, _, _, x⟩ := obj_open hO
 refine uS1 Tryz.func10 ?_
 have H := Hp.startF (.rp x (.rp hto .nil))
 refine uR 1 [.c [0], .c [1]] ?_
 refine qG (sq 0 4) ?_
 refine uC ((objV O s t).toArray) 26 H ?_
 intro _ _ H
 refine uC ((shfZ).toArray) 46 H ?_
 intro _ _ H
 refine uF 2 ?_
 refine uR 1 [.c [1, 0], .c [2]] ?_
 refine qG (sq 0 13) ?_
 refine uV 26 0 (H.cells 1 rfl) ?_
 refine uP 3 ?_
 refine uK (fbegin_ok (O := O) (obj_mk (y0 := O.key) (y1 := O.version) (y2 := O.size) (y3 := O.sum) (y4 := O.group) (y5 := O.epoch) (y6 := O.nodes) ⟨rfl, u⟩ u64a i64a Shape.bv_mk i64a u64a (H.rp 0 rfl)) k n limit (hb)) ?_
 rintro _ _ d ⟨y, z, A, rfl, a, b⟩
 have e := H
 replace a : rdS.rep _ _ y (beginR O k n limit) := a
 replace b : (Shape.slice msgS).rep _ _ [.slice z (asksR (beginR O k n limit)).length A] (asksR (beginR O k n limit)) := b
 obtain ⟨_, f, g, h, i, rfl, o, _, _, p, q, _, _, _⟩ := rd_open a
 obtain ⟨j, l, rfl, _, _, _, _, _, r⟩ := obj_open o
 have H := H.addM d b
 have H := H.addO e d r
 have H := H.addO e d p
 have H := H.addO e d q
 refine uP 4 ?_
 refine uC ((rdZ).toArray) 30 H ?_
 intro _ _ H
 refine uW 30 0 (rdV (beginR O k n limit) j l f g h i).toArray H 0 rfl ?_
 intro _ H
 refine uF 2 ?_
 refine uR 8 [.c [3, 0, 1], .c [4]] ?_
 refine qN ((to.length : Nat) : Int) n (fun m => ?_) (fun m => ?_)
 ·
  refine uR 1 [.c [3, 0, 1, 0, 0], .c [3, 0, 1, 0, 1], .c [4]] ?_
  refine qG (sq 0 4) ?_
  refine uP 1 ?_
  refine uW 46 0 (shfZ).toArray H 1 rfl ?_
  intro _ H
  refine uF 2 ?_
  refine qRB (.tuple #[.agg (shfZ).toArray, .slice none 0 0, .I 2]) Tryz.func10 (v3 (.cell 12 46) (.tmp 13) (.tmp 14) (vC (H.cells 1 rfl)) vT vT) ?_
  exact ⟨_, rfl, H.done, rfl⟩
 ·
  exact absurd m htl
theorem mbegin_no {S : Nat → Prop} {w : World} {O : ObjD} {os : List Value} (hO : objS.rep S w os O) (k n epoch limit : Int) {to : List Int} {ta : Option Addr} {tc : Nat} (hto : (Shape.slice (Shape.int .i64)).rep S w [.slice ta to.length tc] to) (hb : ¬ (okB O k n limit ∧ (to.length : Int) = n)) : Calls Tryz.prog 10 #[.agg os.toArray, .I k, .I n, .slice ta to.length tc, .int .u64 epoch, .I limit] w (Ret fun v w' => Ext w w' ∧ v = .tuple #[.agg (shfZ).toArray, .slice none 0 0, .I 2]) := by
 by_cases h : okB O k n limit
 · exact mbegin_few hO k n epoch limit hto h (fun q => hb ⟨h, q⟩)
 · exact mbegin_bad hO k n epoch limit hto h
set_option maxHeartbeats 2000000 in
theorem r22begin_ok {S : Nat → Prop} {w : World} {O : ObjD} {os : List Value} (hO : objS.rep S w os O) (k n epoch limit : Int) {to : List Int} {ta : Option Addr} {tc : Nat} (hto : (Shape.slice (Shape.int .i64)).rep S w [.slice ta to.length tc] to) (he : 0 ≤ epoch ∧ epoch ≤ 18446744073709551615) (hb : okB O k n limit) (htl : (to.length : Int) = n) :
 Calls Tryz.prog 11 #[.agg os.toArray, .I k, .I n, .slice ta to.length tc, .int .u64 epoch, .I limit] w (Ret fun v w' => Ext w w' ∧ ∃ (ds : List Value) (a : Option Addr) (c : Nat), v = .tuple #[.agg ds.toArray, .slice a (asksR (beginR O k n limit)).length c, .I 0] ∧ shfS.rep (Nw S w) w' ds (mbegR O k n to epoch limit) ∧ (Shape.slice msgS).rep (Nw S w) w' [.slice a (asksR (beginR O k n limit)).length c] (asksR (beginR O k n limit))) := by
 obtain ⟨G, J, rfl, K, _, _, _, _, L⟩ := obj_open hO
 have M := hb
 obtain ⟨_, _, _, _, _, _⟩ := M
 refine uS1 Tryz.func11 ?_
 have H := Hp.startF (.rp L (.rp hto .nil))
 refine uR 1 [.c [0], .c [1]] ?_
 refine qG (sq 0 4) ?_
 refine uC ((objV O G J).toArray) 26 H ?_
 intro _ _ H
 refine uC ((shfZ).toArray) 46 H ?_
 intro N _ H
 refine uF 2 ?_
 refine uR 1 [.c [1, 0], .c [2]] ?_
 refine qG (sq 0 13) ?_
 refine uV 26 0 (H.cells 1 rfl) ?_
 refine uP 3 ?_
 refine uK (rbegin_ok (O := O) (obj_mk (y0 := O.key) (y1 := O.version) (y2 := O.size) (y3 := O.sum) (y4 := O.group) (y5 := O.epoch) (y6 := O.nodes) ⟨rfl, K⟩ u64a i64a Shape.bv_mk i64a u64a (H.rp 0 rfl)) k n limit hb) ?_
 rintro _ _ s ⟨Q, t, u, rfl, p, q⟩
 have x := H
 replace p : rdS.rep _ _ Q (beginR O k n limit) := p
 replace q : (Shape.slice msgS).rep _ _ [.slice t (asksR (beginR O k n limit)).length u] (asksR (beginR O k n limit)) := q
 obtain ⟨_, f, g, h, i, rfl, C, _, _, D, E, _, _, _⟩ := rd_open p
 obtain ⟨j, l, rfl, _, _, _, _, _, F⟩ := obj_open C
 have H := H.addM s q
 have H := H.addO x s F
 have H := H.addO x s D
 have H := H.addO x s E
 refine uP 4 ?_
 refine uC ((rdZ).toArray) 30 H ?_
 intro A _ H
 refine uW 30 0 (rdV (beginR O k n limit) j l f g h i).toArray H 0 rfl ?_
 intro B H
 refine uF 2 ?_
 refine uR 8 [.c [3, 0, 1], .c [4]] ?_
 refine qN ((to.length : Nat) : Int) n (fun R => ?_) (fun R => ?_)
 ·
  omega
 ·
  refine qR 2 [.c [4, 0], .c [5]] [(3, .slice ta to.length tc), (4, .int .u64 epoch), (12, .P N 0), (15, .P A 0), (16, .slice t ((asksR (beginR O k n limit)).length) u)] ?_
  refine WK.drawP1 7 [2, 4, 6] [(42, .slice t ((asksR (beginR O k n limit)).length) u), (40, .int .u64 epoch), (38, .slice ta to.length tc), (3, .slice ta to.length tc), (4, .int .u64 epoch), (12, .P N 0), (15, .P A 0), (16, .slice t ((asksR (beginR O k n limit)).length) u)] [(0, .qui), (1, .chn), (3, .chn), (5, .qui)] [(0, .qui), (1, .chn), (3, .chn), (5, .qui), (7, .seq), (8, .seq), (9, .seq)] Try_mixed (by as_aux_lemma => kernel_rfl) (by as_aux_lemma => kernel_rfl) (by as_aux_lemma => kernel_rfl) (by as_aux_lemma => kernel_rfl) ?_
  have H := H.draw
  generalize ({ B with drawn := B.drawn + 1 } : World) = V at H ⊢
  refine uV 30 0 (H.cells 0 rfl) ?_
  refine RW.new (κ := .chn) (d := some 37) (r := [(3, .chn), (5, .qui), (7, .seq), (8, .seq), (9, .seq)]) (o := .cells #[] 3 (0, 0)) (v := fun b => .slice (some ⟨b, 0, none⟩) 0 0) (fun b => by as_aux_lemma => kernel_rfl) (nofun) H ?_
  intro U _ H
  refine RW.appendN (κ := .chn) (d := some 39) (r := [(5, .qui), (7, .seq), (8, .seq), (9, .seq)]) (T := 24) (ty := 24) (e := 3) (m := 1) (by_ := 8) (a0 := (some ⟨U, 0, none⟩)) (a2 := ta) (l2 := to.length) (c2 := tc) (by as_aux_lemma => kernel_rfl) (nofun) (.inr ⟨_, rfl⟩) (by as_aux_lemma => kernel_rfl) rfl H 5 rfl (by omega) ?_
  intro y z _ H
  refine uP 1 ?_
  refine uW 46 0 ((rdV (beginR O k n limit) j l f g h i) ++ ([.slice y to.length z, .int .u64 epoch] : List Value) ++ (wrZ) ++ ([.bool false, .I 0] : List Value)).toArray H 2 rfl ?_
  intro _ H
  refine uF 2 ?_
  refine qRB (.tuple #[.agg ((rdV (beginR O k n limit) j l f g h i) ++ ([.slice y to.length z, .int .u64 epoch] : List Value) ++ (wrZ) ++ ([.bool false, .I 0] : List Value)).toArray, .slice t ((asksR (beginR O k n limit)).length) u, .I 0]) Tryz.func11 (v3 (.cell 12 46) (.tmp 13) (.tmp 14) (vC (H.cells 2 rfl)) vT vT) ?_
  exact ⟨_, rfl, H.done, [.string (((beginR O k n limit).object).key), .int .u64 (((beginR O k n limit).object).version), .I (((beginR O k n limit).object).size), .int .u32 (((((beginR O k n limit).object).sum).toNat : Nat) : Int), .I (((beginR O k n limit).object).group), .int .u64 (((beginR O k n limit).object).epoch), .slice j (((beginR O k n limit).object).nodes.length) l, .I ((beginR O k n limit).kk), .I ((beginR O k n limit).nn), .slice f ((beginR O k n limit).pieces.length) g, .slice h ((beginR O k n limit).bad.length) i, .I ((beginR O k n limit).waited), .I ((beginR O k n limit).limit), .I ((beginR O k n limit).done), .slice y to.length z, .int .u64 epoch, .int .u64 0, .int .u64 0, .string (⟨#[]⟩), .slice none 0 0, .slice none 0 0, .slice none 0 0, .slice none 0 0, .I 0, .I 0, .I 0, .bool false, .I 0], _, _, rfl, H.out (shf_mk (y0 := (beginR O k n limit)) (y3 := ⟨0, 0, ⟨#[]⟩, [], [], [], [], 0, 0, 0⟩) (rd_mkB (by unfold rdB; omega) (H.rp 3 rfl) (H.rp 2 rfl) (H.rp 1 rfl)) (H.rp 0 rfl) u64a (wr_mk (l0 := [.int .u64 0]) (y0 := 0) (l1 := [.int .u64 0]) (y1 := 0) (l2 := [.string (⟨#[]⟩)]) (y2 := ⟨#[]⟩) (l3 := [.slice none 0 0]) (y3 := []) (l4 := [.slice none 0 0]) (y4 := []) (l5 := [.slice none 0 0]) (y5 := []) (l6 := [.slice none 0 0]) (y6 := []) (l7 := [.I 0]) (y7 := 0) (l8 := [.I 0]) (y8 := 0) (l9 := [.I 0]) (y9 := 0) (Shape.int_mk (by decide)) (Shape.int_mk (by decide)) ⟨rfl, by first | assumption | (simp [maxLen]; done) | decide⟩ Shape.slice_nil Shape.slice_nil Shape.slice_nil Shape.slice_nil (Shape.int_mk (by decide)) (Shape.int_mk (by decide)) (Shape.int_mk (by decide))) Shape.bool_mk (Shape.int_mk (by decide))), H.out (H.rp 4 rfl)⟩
set_option maxHeartbeats 2000000 in
theorem r22begin_bad {S : Nat → Prop} {w : World} {O : ObjD} {os : List Value} (hO : objS.rep S w os O) (k n epoch limit : Int) {to : List Int} {ta : Option Addr} {tc : Nat} (hto : (Shape.slice (Shape.int .i64)).rep S w [.slice ta to.length tc] to) (hb : ¬ okB O k n limit) :
 Calls Tryz.prog 11 #[.agg os.toArray, .I k, .I n, .slice ta to.length tc, .int .u64 epoch, .I limit] w (Ret fun v w' => Ext w w' ∧ v = .tuple #[.agg (shfZ).toArray, .slice none 0 0, .I 2]) := by
 obtain ⟨a, b, rfl, d, _, _, _, _, e⟩ := obj_open hO
 refine uS1 Tryz.func11 ?_
 have H := Hp.startF (.rp e (.rp hto .nil))
 refine uR 1 [.c [0], .c [1]] ?_
 refine qG (sq 0 4) ?_
 refine uC ((objV O a b).toArray) 26 H ?_
 intro _ _ H
 refine uC ((shfZ).toArray) 46 H ?_
 intro _ _ H
 refine uF 2 ?_
 refine uR 1 [.c [1, 0], .c [2]] ?_
 refine qG (sq 0 13) ?_
 refine uV 26 0 (H.cells 1 rfl) ?_
 refine uP 3 ?_
 refine uK (rbegin_bad (O := O) (obj_mk (y0 := O.key) (y1 := O.version) (y2 := O.size) (y3 := O.sum) (y4 := O.group) (y5 := O.epoch) (y6 := O.nodes) ⟨rfl, d⟩ u64a i64a Shape.bv_mk i64a u64a (H.rp 0 rfl)) k n limit hb) ?_
 rintro _ _ f rfl
 have H := H.ext f
 refine uP 4 ?_
 refine uC ((rdZ).toArray) 30 H ?_
 intro _ _ H
 refine uW 30 0 (rdZ).toArray H 0 rfl ?_
 intro _ H
 refine uF 2 ?_
 refine uR 5 [.c [2, 0, 1, 0, 0], .c [2, 0, 1, 0, 1], .c [3]] ?_
 refine qG (sq 0 5) ?_
 refine uP 2 ?_
 refine uW 46 0 (shfZ).toArray H 1 rfl ?_
 intro _ H
 refine uF 2 ?_
 refine qRB (.tuple #[.agg (shfZ).toArray, .slice none 0 0, .I 2]) Tryz.func11 (v3 (.cell 12 46) (.tmp 13) (.tmp 14) (vC (H.cells 1 rfl)) vT vT) ?_
 exact ⟨_, rfl, H.done, rfl⟩
set_option maxHeartbeats 2000000 in
theorem r22begin_few {S : Nat → Prop} {w : World} {O : ObjD} {os : List Value} (hO : objS.rep S w os O) (k n epoch limit : Int) {to : List Int} {ta : Option Addr} {tc : Nat} (hto : (Shape.slice (Shape.int .i64)).rep S w [.slice ta to.length tc] to) (hb : okB O k n limit) (htl : (to.length : Int) ≠ n) :
 Calls Tryz.prog 11 #[.agg os.toArray, .I k, .I n, .slice ta to.length tc, .int .u64 epoch, .I limit] w (Ret fun v w' => Ext w w' ∧ v = .tuple #[.agg (shfZ).toArray, .slice none 0 0, .I 2]) := by
 obtain ⟨s, t, rfl, u, _, _, _, _, x⟩ := obj_open hO
 refine uS1 Tryz.func11 ?_
 have H := Hp.startF (.rp x (.rp hto .nil))
 refine uR 1 [.c [0], .c [1]] ?_
 refine qG (sq 0 4) ?_
 refine uC ((objV O s t).toArray) 26 H ?_
 intro _ _ H
 refine uC ((shfZ).toArray) 46 H ?_
 intro _ _ H
 refine uF 2 ?_
 refine uR 1 [.c [1, 0], .c [2]] ?_
 refine qG (sq 0 13) ?_
 refine uV 26 0 (H.cells 1 rfl) ?_
 refine uP 3 ?_
 refine uK (rbegin_ok (O := O) (obj_mk (y0 := O.key) (y1 := O.version) (y2 := O.size) (y3 := O.sum) (y4 := O.group) (y5 := O.epoch) (y6 := O.nodes) ⟨rfl, u⟩ u64a i64a Shape.bv_mk i64a u64a (H.rp 0 rfl)) k n limit hb) ?_
 rintro _ _ d ⟨y, z, A, rfl, a, b⟩
 have e := H
 replace a : rdS.rep _ _ y (beginR O k n limit) := a
 replace b : (Shape.slice msgS).rep _ _ [.slice z (asksR (beginR O k n limit)).length A] (asksR (beginR O k n limit)) := b
 obtain ⟨_, f, g, h, i, rfl, o, _, _, p, q, _, _, _⟩ := rd_open a
 obtain ⟨j, l, rfl, _, _, _, _, _, r⟩ := obj_open o
 have H := H.addM d b
 have H := H.addO e d r
 have H := H.addO e d p
 have H := H.addO e d q
 refine uP 4 ?_
 refine uC ((rdZ).toArray) 30 H ?_
 intro _ _ H
 refine uW 30 0 (rdV (beginR O k n limit) j l f g h i).toArray H 0 rfl ?_
 intro _ H
 refine uF 2 ?_
 refine uR 8 [.c [3, 0, 1], .c [4]] ?_
 refine qN ((to.length : Nat) : Int) n (fun m => ?_) (fun m => ?_)
 ·
  refine uR 1 [.c [3, 0, 1, 0, 0], .c [3, 0, 1, 0, 1], .c [4]] ?_
  refine qG (sq 0 4) ?_
  refine uP 1 ?_
  refine uW 46 0 (shfZ).toArray H 1 rfl ?_
  intro _ H
  refine uF 2 ?_
  refine qRB (.tuple #[.agg (shfZ).toArray, .slice none 0 0, .I 2]) Tryz.func11 (v3 (.cell 12 46) (.tmp 13) (.tmp 14) (vC (H.cells 1 rfl)) vT vT) ?_
  exact ⟨_, rfl, H.done, rfl⟩
 ·
  exact absurd m htl
theorem r22begin_no {S : Nat → Prop} {w : World} {O : ObjD} {os : List Value} (hO : objS.rep S w os O) (k n epoch limit : Int) {to : List Int} {ta : Option Addr} {tc : Nat} (hto : (Shape.slice (Shape.int .i64)).rep S w [.slice ta to.length tc] to) (hb : ¬ (okB O k n limit ∧ (to.length : Int) = n)) : Calls Tryz.prog 11 #[.agg os.toArray, .I k, .I n, .slice ta to.length tc, .int .u64 epoch, .I limit] w (Ret fun v w' => Ext w w' ∧ v = .tuple #[.agg (shfZ).toArray, .slice none 0 0, .I 2]) := by
 by_cases h : okB O k n limit
 · exact r22begin_few hO k n epoch limit hto h (fun q => hb ⟨h, q⟩)
 · exact r22begin_bad hO k n epoch limit hto h
theorem r04same_nil {S : Nat → Prop} {w : World} {ae be : Option Addr} {n ke je : Nat} (hn0 : n = 0) :
 Calls Tryz.prog 51 #[.slice ae n ke, .slice be n je] w (Ret fun v w' => Ext w w' ∧ v = .bool true) := by
 refine uS1 Tryz.func51 ?_
 have H := Hp.startF (w := w) (S := S) (G := []) .nil
 refine uR 5 [.c [1, 0, 1], .c [2]] ?_
 refine qN ((n : Nat) : Int) ((n : Nat) : Int) (fun a => ?_) (fun a => ?_)
 ·
  omega
 ·
  refine uR 5 [.c [2, 0, 1, 0], .b 0, .c [3]] ?_
  refine uL (α := Unit) (g := 51) (p := [2, 0, 1, 0, 0]) (fun _ => [(0, .slice ae n ke), (1, .slice be n je), (5, .I 0)]) (fun _ w' => Hp w S [] [] [] [] w' ∧ True) (fun _ => 0) (()) ⟨H, trivial⟩ ?_
  rintro _ _ ⟨H, _⟩ _
  refine uR 3 [.c [2, 0, 1, 0, 0, 0, 1], .c [2, 0, 1, 0, 0, 1], .l [2, 0, 1, 0, 0], .b 0, .c [3]] ?_
  refine qD ((0 : Int) < ((n : Nat) : Int)) (fun d => ?_) (fun d => ?_)
  ·
   omega
  ·
   refine uR 3 [.c [4]] ?_
   refine qT (.bool true) Tryz.func51 ?_
   exact ⟨_, rfl, H.done, rfl⟩
theorem r02same_nil {S : Nat → Prop} {w : World} {ae be : Option Addr} {n ke je : Nat} (hn0 : n = 0) :
 Calls Tryz.prog 52 #[.slice ae n ke, .slice be n je] w (Ret fun v w' => Ext w w' ∧ v = .bool true) := by
 refine uS1 Tryz.func52 ?_
 have H := Hp.startF (w := w) (S := S) (G := []) .nil
 refine uR 5 [.c [1, 0, 1], .c [2]] ?_
 refine qN ((n : Nat) : Int) ((n : Nat) : Int) (fun a => ?_) (fun a => ?_)
 ·
  omega
 ·
  refine uR 5 [.c [2, 0, 1, 0], .b 0, .c [3]] ?_
  refine uL (α := Unit) (g := 52) (p := [2, 0, 1, 0, 0]) (fun _ => [(0, .slice ae n ke), (1, .slice be n je), (5, .I 0)]) (fun _ w' => Hp w S [] [] [] [] w' ∧ True) (fun _ => 0) (()) ⟨H, trivial⟩ ?_
  rintro _ _ ⟨H, _⟩ _
  refine uR 3 [.c [2, 0, 1, 0, 0, 0, 1], .c [2, 0, 1, 0, 0, 1], .l [2, 0, 1, 0, 0], .b 0, .c [3]] ?_
  refine qD ((0 : Int) < ((n : Nat) : Int)) (fun d => ?_) (fun d => ?_)
  ·
   omega
  ·
   refine uR 3 [.c [4]] ?_
   refine qT (.bool true) Tryz.func52 ?_
   exact ⟨_, rfl, H.done, rfl⟩
set_option maxHeartbeats 2000000 in
theorem r20same_nil {S : Nat → Prop} {w : World} {W : Wr} {cs : List Value} (hW : wrS.rep S w cs W) {cs2 : List Value} (h2 : wrS.rep S w cs2 W) (hwh : W.heads.length = 0) (hwc : W.chunks.length = 0) :
 Calls Tryz.prog 27 #[.agg cs.toArray, .agg cs2.toArray] w (Ret fun v w' => Ext w w' ∧ v = .bool true) := by
 obtain ⟨f, g, h, i, y, z, A, B, rfl, _, _, _, C, D, E, F, _, _, _⟩ := wr_open hW
 obtain ⟨a, b, d, e, l, m, n, o, rfl, _, _, _, p, q, r, s, _, _, _⟩ := wr_open h2
 refine uS1 Tryz.func27 ?_
 have H := Hp.startF (.rp C (.rp D (.rp E (.rp F (.rp p (.rp q (.rp r (.rp s .nil))))))))
 refine uR 1 [.c [0], .c [1]] ?_
 refine qG (sq 0 3) ?_
 refine uC ((wrV W f g h i y z A B).toArray) 44 H ?_
 intro G _ H
 refine uC ((wrV W a b d e l m n o).toArray) 44 H ?_
 intro t _ H
 refine uF 1 ?_
 refine uR 1 [.c [1, 0], .c [2]] ?_
 refine qG (sq 0 69) ?_
 refine uP 1 ?_
 refine uV 22 0 (H.cells 1 rfl) ?_
 refine uP 1 ?_
 refine uV 22 0 (H.cells 0 rfl) ?_
 refine uP 2 ?_
 refine uE 10 W.client W.client (fun I => ?_) (fun I => ?_)
 ·
  refine uP 1 ?_
  refine uV 22 1 (H.cells 1 rfl) ?_
  refine uP 1 ?_
  refine uV 22 1 (H.cells 0 rfl) ?_
  refine uP 3 ?_
  refine uE 17 W.seq W.seq (fun J => ?_) (fun J => ?_)
  ·
   refine uP 1 ?_
   refine uV 9 2 (H.cells 1 rfl) ?_
   refine qP 1 (sq 16 69) [(2, .P G 0), (3, .P t 0), (17, .bool true), (19, .string W.key), (20, .P t 2)] ?_
   refine uV 9 2 (H.cells 0 rfl) ?_
   refine uP 3 ?_
   refine uE 24 W.key.toList W.key.toList (fun K => ?_) (fun K => ?_)
   ·
    refine uP 1 ?_
    refine uV 41 3 (H.cells 1 rfl) ?_
    refine uP 1 ?_
    refine uV 41 3 (H.cells 0 rfl) ?_
    refine qK .seq (some 29) (sq 25 69) 51 #[.slice f W.heads.length g, .slice a W.heads.length b] (r04same_nil (S := fun _ => True) (by omega)) ?_
    rintro _ _ hEz rfl
    have H := H.ext hEz
    refine uP 3 ?_
    refine uV 42 4 (H.cells 1 rfl) ?_
    refine uP 1 ?_
    refine uV 42 4 (H.cells 0 rfl) ?_
    refine qK .seq (some 36) (sq 32 69) 52 #[.slice h W.chunks.length i, .slice d W.chunks.length e] (r02same_nil (S := fun _ => True) (by omega)) ?_
    rintro _ _ hEz rfl
    have H := H.ext hEz
    refine uP 3 ?_
    refine uV 24 5 (H.cells 1 rfl) ?_
    refine uP 1 ?_
    refine uV 24 5 (H.cells 0 rfl) ?_
    refine uK (ints_eq (S := fun _ => True) (xs := W.nodes) (H.viewF 2 rfl) (H.viewF 6 rfl)) ?_
    rintro _ _ u rfl
    have H := H.ext u
    refine uP 3 ?_
    refine uV 24 6 (H.cells 1 rfl) ?_
    refine uP 1 ?_
    refine uV 24 6 (H.cells 0 rfl) ?_
    refine uK (ints_eq (S := fun _ => True) (xs := W.acks) (H.viewF 3 rfl) (H.viewF 7 rfl)) ?_
    rintro _ _ x rfl
    have H := H.ext x
    refine uP 3 ?_
    refine uV 3 7 (H.cells 1 rfl) ?_
    refine uP 1 ?_
    refine uV 3 7 (H.cells 0 rfl) ?_
    refine uP 3 ?_
    refine uE 59 W.waited W.waited (fun j => ?_) (fun j => ?_)
    ·
     refine uP 1 ?_
     refine uV 3 8 (H.cells 1 rfl) ?_
     refine uP 1 ?_
     refine uV 3 8 (H.cells 0 rfl) ?_
     refine uP 3 ?_
     refine uE 66 W.limit W.limit (fun k => ?_) (fun k => ?_)
     ·
      refine qP 1 (sq 63 69) [(3, .P t 0), (66, .bool true), (67, .P G 9)] ?_
      refine uV 28 9 (H.cells 1 rfl) ?_
      refine uP 1 ?_
      refine uV 28 9 (H.cells 0 rfl) ?_
      refine uF 3 ?_
      refine qT (.bool (W.done == W.done)) Tryz.func27 ?_
      refine ⟨_, rfl, H.done, ?_⟩
      simp
     ·
      exact absurd rfl k
    ·
     exact absurd rfl j
   ·
    exact absurd rfl K
  ·
   exact absurd rfl J
 ·
  exact absurd rfl I
set_option maxHeartbeats 4000000 in
theorem r22same_spec {S : Nat → Prop} {w : World} {s : Shf} {cs : List Value} (hs : shfS.rep S w cs s) {cs2 : List Value} (h2 : shfS.rep S w cs2 s) (hps : s.read.pieces = []) (hok : ObjOk s.read.object) (hwh : s.write.heads.length = 0) (hwc : s.write.chunks.length = 0) :
 Calls Tryz.prog 12 #[.agg cs.toArray, .agg cs2.toArray] w (Ret fun v w' => Ext w w' ∧ v = .bool true) := by
 obtain ⟨_, k0, l0, _, rfl, m0, n0, _, o0, _⟩ := shf_open hs
 obtain ⟨_, V, X, Y, Z, rfl, a0, _, _, b0, c0, _, _, _⟩ := rd_open m0
 obtain ⟨e, f, rfl, _, _, _, _, _, g⟩ := obj_open a0
 obtain ⟨y, z, A, B, C, D, E, F, rfl, _, _, G, I, J, K, L, _, _, _⟩ := wr_open o0
 obtain ⟨_, e0, f0, _, rfl, g0, h0, _, i0, _⟩ := shf_open h2
 obtain ⟨_, M, N, O, Q, rfl, R, _, _, T, U, _, _, _⟩ := rd_open g0
 obtain ⟨a, b, rfl, _, _, _, _, _, d⟩ := obj_open R
 obtain ⟨h, i, j, k, l, m, n, o, rfl, _, _, p, q, t, u, x, _, _, _⟩ := wr_open i0
 refine uS1 Tryz.func12 ?_
 have H := Hp.startF (.rp g (.rp b0 (.rp c0 (.rp n0 (.rp I (.rp J (.rp K (.rp L (.rp d (.rp T (.rp U (.rp h0 (.rp q (.rp t (.rp u (.rp x .nil))))))))))))))))
 refine uR 1 [.c [0], .c [1]] ?_
 refine qG (sq 0 3) ?_
 refine uC ((shfV s e f V X Y Z k0 l0 y z A B C D E F).toArray) 46 H ?_
 intro b1 _ H
 refine uC ((shfV s a b M N O Q e0 f0 h i j k l m n o).toArray) 46 H ?_
 intro b3 _ H
 refine uF 1 ?_
 refine uR 1 [.c [1, 0], .c [2]] ?_
 refine qG (sq 0 41) ?_
 refine uP 1 ?_
 refine uV 30 0 (H.cells 1 rfl) ?_
 refine uP 1 ?_
 refine uV 30 0 (H.cells 0 rfl) ?_
 refine uK (rsame_spec (r := s.read) (rd_mkB (by unfold rdB; omega) (H.rp 0 rfl) (H.rp 1 rfl) (H.rp 2 rfl)) (rd_mkB (by unfold rdB; omega) (H.rp 8 rfl) (H.rp 9 rfl) (H.rp 10 rfl)) (hps) (hok)) ?_
 rintro _ _ p0 rfl
 have H := H.ext p0
 refine uP 2 ?_
 refine uV 24 14 (H.cells 1 rfl) ?_
 refine uP 1 ?_
 refine uV 24 14 (H.cells 0 rfl) ?_
 refine uK (ints_eq (S := fun _ => True) (xs := s.to) (H.viewF 3 rfl) (H.viewF 11 rfl)) ?_
 rintro _ _ q0 rfl
 have H := H.ext q0
 refine uP 3 ?_
 refine uV 22 15 (H.cells 1 rfl) ?_
 refine uP 1 ?_
 refine uV 22 15 (H.cells 0 rfl) ?_
 refine uP 3 ?_
 refine uE 24 s.epoch s.epoch (fun h9 => ?_) (fun h9 => ?_)
 ·
  refine qP 1 (sq 21 41) [(2, .P b1 0), (3, .P b3 0), (24, .bool true), (25, .P b1 16)] ?_
  refine uV 44 16 (H.cells 1 rfl) ?_
  refine uP 1 ?_
  refine uV 44 16 (H.cells 0 rfl) ?_
  refine uK (r20same_nil (W := s.write) (wr_mkV u64a u64a ⟨rfl, G⟩ (H.rp 4 rfl) (H.rp 5 rfl) (H.rp 6 rfl) (H.rp 7 rfl) i64a i64a i64a) (wr_mkV u64a u64a ⟨rfl, p⟩ (H.rp 12 rfl) (H.rp 13 rfl) (H.rp 14 rfl) (H.rp 15 rfl) i64a i64a i64a) (hwh) (hwc)) ?_
  rintro _ _ j0 rfl
  have H := H.ext j0
  refine uP 3 ?_
  refine uV 4 26 (H.cells 1 rfl) ?_
  refine uP 1 ?_
  refine uV 4 26 (H.cells 0 rfl) ?_
  refine uP 3 ?_
  refine uE 38 s.ready s.ready (fun d0 => ?_) (fun d0 => ?_)
  ·
   refine uP 1 ?_
   refine uV 28 27 (H.cells 1 rfl) ?_
   refine uP 1 ?_
   refine uV 28 27 (H.cells 0 rfl) ?_
   refine uF 3 ?_
   refine qT (.bool (s.done == s.done)) Tryz.func12 ?_
   refine ⟨_, rfl, H.done, ?_⟩
   simp
  ·
   exact absurd rfl d0
 ·
  exact absurd rfl h9
set_option maxHeartbeats 4000000 in
theorem mbegins_ok {S : Nat → Prop} {w : World} {O : ObjD} {os : List Value} (hO : objS.rep S w os O) (k n epoch limit : Int) {to : List Int} {ta : Option Addr} {tc : Nat} (hto : (Shape.slice (Shape.int .i64)).rep S w [.slice ta to.length tc] to) (hep : 0 ≤ epoch ∧ epoch ≤ 18446744073709551615) (hb : okB O k n limit) (htl : (to.length : Int) = n) (hkey : O.key.size ≤ 1000000000) :
 Calls Tryz.prog 4 #[.agg os.toArray, .I k, .I n, .slice ta to.length tc, .int .u64 epoch, .I limit] w (Ret fun v w' => Ext w w' ∧ v = .bool true) := by
 obtain ⟨D0, E0, rfl, Y, F0, G0, H0, I0, Z⟩ := obj_open hO
 obtain ⟨J0, _, _, _, _, _⟩ := id hb
 have hbl := el_ok.1 J0
 unfold okL at hbl
 have hOk : ObjOk O := ⟨F0, G0, H0, I0, hkey, by omega, rep_ints Z⟩
 refine uS1 Tryz.func4 ?_
 have H := Hp.startF (.rp Z (.rp hto .nil))
 refine uR 1 [.c [0], .c [1]] ?_
 refine qG (sq 0 2) ?_
 refine uC ((objV O D0 E0).toArray) 26 H ?_
 intro _ _ H
 refine uF 1 ?_
 refine uR 1 [.c [1, 0], .c [2]] ?_
 refine qG (sq 0 15) ?_
 refine uV 26 0 (H.cells 0 rfl) ?_
 refine uP 5 ?_
 refine uK (mbegin_ok (O := O) (obj_mk (y0 := O.key) (y1 := O.version) (y2 := O.size) (y3 := O.sum) (y4 := O.group) (y5 := O.epoch) (y6 := O.nodes) ⟨rfl, Y⟩ u64a i64a Shape.bv_mk i64a u64a (H.rp 0 rfl)) k n epoch limit (H.rp 1 rfl) hep hb htl) ?_
 rintro _ _ d ⟨K0, a6, c7, rfl, g, h⟩
 have a := H
 replace g : shfS.rep _ _ K0 (mbegR O k n to epoch limit) := g
 replace h : (Shape.slice msgS).rep _ _ [.slice a6 (asksR (beginR O k n limit)).length c7] (asksR (beginR O k n limit)) := h
 obtain ⟨_, i, j, _, rfl, c0, d0, _, e0, _⟩ := shf_open g
 obtain ⟨_, l, m, o, p, rfl, f0, _, _, g0, h0, _, _, _⟩ := rd_open c0
 obtain ⟨q, r, rfl, _, _, _, _, _, i0⟩ := obj_open f0
 obtain ⟨t, u, x, y, z, A, B, C, rfl, _, _, _, j0, k0, l0, m0, _, _, _⟩ := wr_open e0
 have H := H.addM d h
 have H := H.addO a d i0
 have H := H.addO a d g0
 have H := H.addO a d h0
 have H := H.addO a d d0
 have H := H.addO a d j0
 have H := H.addO a d k0
 have H := H.addO a d l0
 have H := H.addO a d m0
 refine uP 4 ?_
 refine uC ((shfZ).toArray) 46 H ?_
 intro L0 _ H
 refine uW 46 0 (shfV (mbegR O k n to epoch limit) q r l m o p i j t u x y z A B C).toArray H 0 rfl ?_
 intro _ H
 refine uF 2 ?_
 refine uR 1 [.c [2, 0], .c [3]] ?_
 refine qG (sq 0 15) ?_
 refine uV 26 0 (H.cells 1 rfl) ?_
 refine uP 5 ?_
 refine uK (r22begin_ok (O := O) (obj_mk (y0 := O.key) (y1 := O.version) (y2 := O.size) (y3 := O.sum) (y4 := O.group) (y5 := O.epoch) (y6 := O.nodes) ⟨rfl, Y⟩ u64a i64a Shape.bv_mk i64a u64a (H.rp 9 rfl)) k n epoch limit (H.rp 10 rfl) hep hb htl) ?_
 rintro _ _ b ⟨n0, a0, b0, rfl, e, f⟩
 have a := H
 replace e : shfS.rep _ _ n0 (mbegR O k n to epoch limit) := e
 replace f : (Shape.slice msgS).rep _ _ [.slice a0 (asksR (beginR O k n limit)).length b0] (asksR (beginR O k n limit)) := f
 obtain ⟨_, D, E, _, rfl, o0, p0, _, q0, _⟩ := shf_open e
 obtain ⟨_, F, G, J, K, rfl, r0, _, _, s0, t0, _, _, _⟩ := rd_open o0
 obtain ⟨L, M, rfl, _, _, _, _, _, u0⟩ := obj_open r0
 obtain ⟨N, Q, R, T, U, V, W, X, rfl, _, _, _, v0, w0, x0, z0, _, _, _⟩ := wr_open q0
 have H := H.addM b f
 have H := H.addO a b u0
 have H := H.addO a b s0
 have H := H.addO a b t0
 have H := H.addO a b p0
 have H := H.addO a b v0
 have H := H.addO a b w0
 have H := H.addO a b x0
 have H := H.addO a b z0
 refine uP 4 ?_
 refine uC ((shfZ).toArray) 46 H ?_
 intro M0 _ H
 refine uW 46 0 (shfV (mbegR O k n to epoch limit) L M F G J K D E N Q R T U V W X).toArray H 0 rfl ?_
 intro _ H
 refine uF 2 ?_
 refine qR 1 [.c [3, 0], .c [4]] [(13, .P L0 0), (14, .slice a6 ((asksR (beginR O k n limit)).length) c7), (15, .I 0), (16, .P M0 0), (17, .slice a0 ((asksR (beginR O k n limit)).length) b0), (18, .I 0)] ?_
 refine qG (sq 0 17) ?_
 refine uV 46 0 (H.cells 1 rfl) ?_
 refine uV 46 0 (H.cells 0 rfl) ?_
 refine uK (r22same_spec (s := (mbegR O k n to epoch limit)) (shf_mk (y0 := ((mbegR O k n to epoch limit).read)) (y3 := ((mbegR O k n to epoch limit).write)) (rd_mkB (by unfold rdB; omega) (H.rp 16 rfl) (H.rp 15 rfl) (H.rp 14 rfl)) (H.rp 13 rfl) u64a (wr_mkV u64a u64a ⟨rfl, by first | assumption | (simp [maxLen]; done) | decide⟩ (H.rp 12 rfl) (H.rp 11 rfl) (H.rp 10 rfl) (H.rp 9 rfl) i64a i64a i64a) Shape.bool_mk i64a) (shf_mk (y0 := ((mbegR O k n to epoch limit).read)) (y3 := ((mbegR O k n to epoch limit).write)) (rd_mkB (by unfold rdB; omega) (H.rp 7 rfl) (H.rp 6 rfl) (H.rp 5 rfl)) (H.rp 4 rfl) u64a (wr_mkV u64a u64a ⟨rfl, by first | assumption | (simp [maxLen]; done) | decide⟩ (H.rp 3 rfl) (H.rp 2 rfl) (H.rp 1 rfl) (H.rp 0 rfl) i64a i64a i64a) Shape.bool_mk i64a) rfl (hOk) rfl rfl) ?_
 rintro _ _ A0 rfl
 have H := H.ext A0
 refine uP 3 ?_
 refine uK (rows_eq (ms := asksR (beginR O k n limit)) (ask_ok hOk (by show _ ≤ k ∧ k ≤ _; omega) (by show _ ≤ n ∧ n ≤ _; omega) (by show O.nodes.length ≤ 1000000; omega)) (H.rp 17 rfl) (H.rp 8 rfl)) ?_
 rintro _ _ B0 rfl
 have H := H.ext B0
 refine uP 7 ?_
 refine uK (heads22_spec (S := fun _ => True)) ?_
 rintro _ _ C0 rfl
 have H := H.ext C0
 refine uF 2 ?_
 refine qT (.bool true) Tryz.func4 ?_
 exact ⟨_, rfl, H.done, rfl⟩
set_option maxHeartbeats 4000000 in
theorem mbegins_no {S : Nat → Prop} {w : World} {O : ObjD} {os : List Value} (hO : objS.rep S w os O) (k n epoch limit : Int) {to : List Int} {ta : Option Addr} {tc : Nat} (hto : (Shape.slice (Shape.int .i64)).rep S w [.slice ta to.length tc] to) (hb : ¬ (okB O k n limit ∧ (to.length : Int) = n)) :
 Calls Tryz.prog 4 #[.agg os.toArray, .I k, .I n, .slice ta to.length tc, .int .u64 epoch, .I limit] w (Ret fun v w' => Ext w w' ∧ v = .bool true) := by
 obtain ⟨a, b, rfl, e, _, _, _, _, j⟩ := obj_open hO
 refine uS1 Tryz.func4 ?_
 have H := Hp.startF (.rp j (.rp hto .nil))
 refine uR 1 [.c [0], .c [1]] ?_
 refine qG (sq 0 2) ?_
 refine uC ((objV O a b).toArray) 26 H ?_
 intro l _ H
 refine uF 1 ?_
 refine uR 1 [.c [1, 0], .c [2]] ?_
 refine qG (sq 0 15) ?_
 refine uV 26 0 (H.cells 0 rfl) ?_
 refine uP 5 ?_
 refine uK (mbegin_no (O := O) (obj_mk (y0 := O.key) (y1 := O.version) (y2 := O.size) (y3 := O.sum) (y4 := O.group) (y5 := O.epoch) (y6 := O.nodes) ⟨rfl, e⟩ u64a i64a Shape.bv_mk i64a u64a (H.rp 0 rfl)) k n epoch limit (H.rp 1 rfl) hb) ?_
 rintro _ _ o rfl
 have H := H.ext o
 refine uP 4 ?_
 refine uC ((shfZ).toArray) 46 H ?_
 intro f _ H
 refine uW 46 0 (shfZ).toArray H 0 rfl ?_
 intro _ H
 refine uF 2 ?_
 refine uR 1 [.c [2, 0], .c [3]] ?_
 refine qG (sq 0 15) ?_
 refine uV 26 0 (H.cells 1 rfl) ?_
 refine uP 5 ?_
 refine uK (r22begin_no (O := O) (obj_mk (y0 := O.key) (y1 := O.version) (y2 := O.size) (y3 := O.sum) (y4 := O.group) (y5 := O.epoch) (y6 := O.nodes) ⟨rfl, e⟩ u64a i64a Shape.bv_mk i64a u64a (H.rp 0 rfl)) k n epoch limit (H.rp 1 rfl) hb) ?_
 rintro _ _ p rfl
 have H := H.ext p
 refine uP 4 ?_
 refine uC ((shfZ).toArray) 46 H ?_
 intro d _ H
 refine uW 46 0 (shfZ).toArray H 0 rfl ?_
 intro _ H
 refine uF 2 ?_
 refine qR 1 [.c [3, 0], .c [4]] [(13, .P f 0), (14, .slice none 0 0), (15, .I 2), (16, .P d 0), (17, .slice none 0 0), (18, .I 2)] ?_
 refine qG (sq 0 17) ?_
 refine uV 46 0 (H.cells 1 rfl) ?_
 refine uV 46 0 (H.cells 0 rfl) ?_
 refine qK .seq (some 43) (sq 3 17) 12 #[.agg (shfZ).toArray, .agg (shfZ).toArray] (r22same_spec (S := Av S w [] (idsOf [(d, .cells (shfZ).toArray 46 (0, 0)), (f, .cells (shfZ).toArray 46 (0, 0)), (l, .cells (objV O a b).toArray 26 (0, 0))] [])) (s := ⟨⟨⟨⟨#[]⟩, 0, 0, 0#32, 0, 0, []⟩, 0, 0, [], [], 0, 0, 0⟩, [], 0, ⟨0, 0, ⟨#[]⟩, [], [], [], [], 0, 0, 0⟩, false, 0⟩) (shf_mk (y0 := ⟨⟨⟨#[]⟩, 0, 0, 0#32, 0, 0, []⟩, 0, 0, [], [], 0, 0, 0⟩) (y3 := ⟨0, 0, ⟨#[]⟩, [], [], [], [], 0, 0, 0⟩) (rd_mk (y0 := ⟨⟨#[]⟩, 0, 0, 0#32, 0, 0, []⟩) (obj_mk (y0 := ⟨#[]⟩) (y1 := 0) (y2 := 0) (y3 := 0#32) (y4 := 0) (y5 := 0) (y6 := []) ⟨rfl, by first | assumption | (simp [maxLen]; done) | decide⟩ (Shape.int_mk (by decide)) (Shape.int_mk (by decide)) (Shape.bv_lit (x := 0#32) (by decide)) (Shape.int_mk (by decide)) (Shape.int_mk (by decide)) Shape.slice_nil) (Shape.int_mk (by decide)) (Shape.int_mk (by decide)) Shape.slice_nil Shape.slice_nil (Shape.int_mk (by decide)) (Shape.int_mk (by decide)) (Shape.int_mk (by decide))) Shape.slice_nil (Shape.int_mk (by decide)) (wr_mk (l0 := [.int .u64 0]) (y0 := 0) (l1 := [.int .u64 0]) (y1 := 0) (l2 := [.string (⟨#[]⟩)]) (y2 := ⟨#[]⟩) (l3 := [.slice none 0 0]) (y3 := []) (l4 := [.slice none 0 0]) (y4 := []) (l5 := [.slice none 0 0]) (y5 := []) (l6 := [.slice none 0 0]) (y6 := []) (l7 := [.I 0]) (y7 := 0) (l8 := [.I 0]) (y8 := 0) (l9 := [.I 0]) (y9 := 0) (Shape.int_mk (by decide)) (Shape.int_mk (by decide)) ⟨rfl, by first | assumption | (simp [maxLen]; done) | decide⟩ Shape.slice_nil Shape.slice_nil Shape.slice_nil Shape.slice_nil (Shape.int_mk (by decide)) (Shape.int_mk (by decide)) (Shape.int_mk (by decide))) Shape.bool_mk (Shape.int_mk (by decide))) (shf_mk (y0 := ⟨⟨⟨#[]⟩, 0, 0, 0#32, 0, 0, []⟩, 0, 0, [], [], 0, 0, 0⟩) (y3 := ⟨0, 0, ⟨#[]⟩, [], [], [], [], 0, 0, 0⟩) (rd_mk (y0 := ⟨⟨#[]⟩, 0, 0, 0#32, 0, 0, []⟩) (obj_mk (y0 := ⟨#[]⟩) (y1 := 0) (y2 := 0) (y3 := 0#32) (y4 := 0) (y5 := 0) (y6 := []) ⟨rfl, by first | assumption | (simp [maxLen]; done) | decide⟩ (Shape.int_mk (by decide)) (Shape.int_mk (by decide)) (Shape.bv_lit (x := 0#32) (by decide)) (Shape.int_mk (by decide)) (Shape.int_mk (by decide)) Shape.slice_nil) (Shape.int_mk (by decide)) (Shape.int_mk (by decide)) Shape.slice_nil Shape.slice_nil (Shape.int_mk (by decide)) (Shape.int_mk (by decide)) (Shape.int_mk (by decide))) Shape.slice_nil (Shape.int_mk (by decide)) (wr_mk (l0 := [.int .u64 0]) (y0 := 0) (l1 := [.int .u64 0]) (y1 := 0) (l2 := [.string (⟨#[]⟩)]) (y2 := ⟨#[]⟩) (l3 := [.slice none 0 0]) (y3 := []) (l4 := [.slice none 0 0]) (y4 := []) (l5 := [.slice none 0 0]) (y5 := []) (l6 := [.slice none 0 0]) (y6 := []) (l7 := [.I 0]) (y7 := 0) (l8 := [.I 0]) (y8 := 0) (l9 := [.I 0]) (y9 := 0) (Shape.int_mk (by decide)) (Shape.int_mk (by decide)) ⟨rfl, by first | assumption | (simp [maxLen]; done) | decide⟩ Shape.slice_nil Shape.slice_nil Shape.slice_nil Shape.slice_nil (Shape.int_mk (by decide)) (Shape.int_mk (by decide)) (Shape.int_mk (by decide))) Shape.bool_mk (Shape.int_mk (by decide))) rfl (by unfold ObjOk; decide) rfl rfl) ?_
 rintro _ _ g rfl
 have H := H.ext g
 refine uP 3 ?_
 refine uK (rows_eq (S := Av S w [] (idsOf [(d, .cells (shfZ).toArray 46 (0, 0)), (f, .cells (shfZ).toArray 46 (0, 0)), (l, .cells (objV O a b).toArray 26 (0, 0))] [])) (ms := ([] : List Msg)) (by intro m hm; cases hm) Shape.slice_nil Shape.slice_nil) ?_
 rintro _ _ h rfl
 have H := H.ext h
 refine uP 7 ?_
 refine uK (heads22_spec (S := fun _ => True)) ?_
 rintro _ _ i rfl
 have H := H.ext i
 refine uF 2 ?_
 refine qT (.bool true) Tryz.func4 ?_
 exact ⟨_, rfl, H.done, rfl⟩
end Go.Proofs.YtppcdmbkgficiaaGreat
