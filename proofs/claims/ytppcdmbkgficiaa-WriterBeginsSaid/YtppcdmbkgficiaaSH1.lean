import Derived.Test.YtppcdmbkgficiaaSBxA
import Derived.Test.YtppcdmbkgficiaaSW7
import Derived.Test.YtppcdmbkgficiaaSE6
namespace Go.Proofs.Ytppcdmbkgficiaa
open Go.BX
theorem in0_spec {S : Nat → Prop} {w : World} (x : Int) {xs : List Int} (hx : xs.length = 0) {a : Option Addr} {c : Nat} (h : (Shape.slice (Shape.int .i64)).rep S w [.slice a xs.length c] xs) :
 Calls Try.prog 24 #[.I x, .slice a xs.length c] w (Ret fun v w' => Ext w w' ∧ v = .bool false) := by
 refine uS1 Try.func24 ?_
 have H := Hp.startF (.rp h .nil)
 refine uR 6 [.c [1, 0, 1, 0], .b 0, .c [2]] ?_
 refine uL (α := Unit) (g := 24) (p := [1, 0, 1, 0, 0]) (fun _ => [(0, .I x), (1, .slice a xs.length c), (5, .I 0)]) (fun _ w' => Hp w S [] [] [] [Rp (Shape.slice (Shape.int .i64)) [.slice a xs.length c] xs] w' ∧ True) (fun _ => 0) (()) ⟨H, trivial⟩ ?_
 rintro _ _ ⟨H, _⟩ _
 refine uR 3 [.c [1, 0, 1, 0, 0, 0, 1], .c [1, 0, 1, 0, 0, 1], .l [1, 0, 1, 0, 0], .b 0, .c [2]] ?_
 refine qD ((0 : Int) < ((xs.length : Nat) : Int)) (fun d => ?_) (fun d => ?_)
 ·
  omega
 ·
  refine uR 3 [.c [3]] ?_
  refine qT (.bool false) Try.func24 ?_
  exact ⟨_, rfl, H.done, rfl⟩
set_option maxHeartbeats 4000000 in
theorem r20msgs_spec {S : Nat → Prop} {w : World} {W : Wr} {cs : List Value} (hW : wrS.rep S w cs W) (hR : W.heads.length = W.chunks.length ∧ W.heads.length = W.nodes.length) (hn : W.heads.length ≤ 1000000) (hak : W.acks = []) :
 Calls Try.prog 58 #[.agg cs.toArray] w (Ret fun v w' => Ext w w' ∧ ∃ (a : Option Addr) (c : Nat), v = .slice a (msgsOf W).length c ∧ (Shape.slice msgS).rep (Nw S w) w' [.slice a (msgsOf W).length c] (msgsOf W)) := by
 obtain ⟨e, f, k, m, n, q, s, t, rfl, _, _, _, G, J, K, L, _, _, _⟩ := wr_open hW
 refine uS1 Try.func58 ?_
 have H := Hp.startF (.rp G (.rp J (.rp K (.rp L .nil))))
 refine uR 1 [.c [0], .c [1]] ?_
 refine qG (sq 0 2) ?_
 refine uC ((wrV W e f k m n q s t).toArray) 32 H ?_
 intro B _ H
 refine uF 1 ?_
 refine uR 6 [.c [2, 0, 1, 0], .b 0, .c [3]] ?_
 have H := H.ownNil msgS 57
 refine uL (α := Nat × Option Addr × Nat) (g := 58) (p := [2, 0, 1, 0, 0]) (fun (i, ao, co) => [(1, .P B 0), (3, .slice ao (msgsTo W i).length co), (4, .I i)]) (fun (i, ao, co) w' => Hp w S [] [(B, .cells (wrV W e f k m n q s t).toArray 32 (0, 0))] [⟨msgS, 57, .slice ao (msgsTo W i).length co, msgsTo W i⟩] [Rp (Shape.slice hdrS) [.slice e W.heads.length f] W.heads, Rp (Shape.slice SB) [.slice k W.chunks.length m] W.chunks, Rp (Shape.slice (Shape.int .i64)) [.slice n W.nodes.length q] W.nodes, Rp (Shape.slice (Shape.int .i64)) [.slice s W.acks.length t] W.acks] w' ∧ i ≤ W.heads.length) (fun (i, ao, co) => W.heads.length - i) (0, none, 0) ⟨H, Nat.zero_le _⟩ ?_
 rintro ⟨i, ao, co⟩ _ ⟨H, _⟩ u
 have hml := msgsTo_le W i
 refine uR 2 [.c [2, 0, 1, 0, 0, 0, 0], .c [2, 0, 1, 0, 0, 0, 1], .c [2, 0, 1, 0, 0, 1], .l [2, 0, 1, 0, 0], .b 0, .c [3]] ?_
 refine qG (sq 0 5) ?_
 refine uP 2 ?_
 refine uV 28 3 (H.cells 0 rfl) ?_
 refine uF 2 ?_
 refine qD (((i : Int) : Int) < ((W.heads.length : Nat) : Int)) (fun h5 => ?_) (fun h5 => ?_)
 ·
  refine uR 4 [.c [2, 0, 1, 0, 0, 1, 0, 0, 0], .c [2, 0, 1, 0, 0, 1, 0, 0, 1], .b 1, .c [2, 0, 1, 0, 0, 2], .l [2, 0, 1, 0, 0], .b 0, .c [3]] ?_
  refine qG (sq 0 5) ?_
  refine uP 2 ?_
  refine uV 25 6 (H.cells 0 rfl) ?_
  refine uK (in0_spec (S := fun _ => True) (i : Int) (xs := W.acks) (by rw [hak]; rfl) (H.viewF 3 rfl)) ?_
  rintro _ M N rfl
  have H := H.ext N
  refine uF 1 ?_
  refine uR 1 [.c [2, 0, 1, 0, 0, 1, 0, 0, 1, 0], .b 1, .c [2, 0, 1, 0, 0, 2], .l [2, 0, 1, 0, 0], .b 0, .c [3]] ?_
  refine WK.draw1 18 [(0, .qui), (1, .qui), (2, .qui), (3, .qui), (4, .qui), (5, .qui), (6, .qui), (7, .qui), (8, .qui), (9, .qui), (10, .qui), (11, .qui), (12, .qui), (13, .qui), (14, .qui), (15, .qui), (16, .qui), (17, .chn)] [(0, .qui), (1, .qui), (2, .qui), (3, .qui), (4, .qui), (5, .qui), (6, .qui), (7, .qui), (8, .qui), (9, .qui), (10, .qui), (11, .qui), (12, .qui), (13, .qui), (14, .qui), (15, .qui), (16, .qui), (17, .chn), (18, .seq), (19, .seq)] Try_mixed (by as_aux_lemma => kernel_rfl) (by as_aux_lemma => kernel_rfl) (by as_aux_lemma => kernel_rfl) ?_
  have H := H.draw
  generalize ({ M with drawn := M.drawn + 1 } : World) = w8 at H ⊢
  refine uP 2 ?_
  refine uV 25 5 (H.cells 0 rfl) ?_
  refine uP 1 ?_
  have O : i < W.nodes.length := by omega
  refine uX 25 (i : Int) H 2 rfl i (by omega) (List.getElem?_eq_getElem O) ?_
  intro Q R _ x H
  have a0 := Shape.i64_bd x
  obtain ⟨rfl, -⟩ := x
  refine uV 3 0 (H.fc 0 rfl) ?_
  refine uP 1 ?_
  refine uV 28 3 (H.cells 0 rfl) ?_
  refine qP 1 [(9, .qui), (10, .qui), (11, .qui), (12, .qui), (13, .qui), (14, .qui), (15, .qui), (16, .qui), (17, .chn), (18, .seq), (19, .seq)] [(1, .P B 0), (3, .slice ao (msgsTo W i).length co), (4, .I i), (17, .slice ao (msgsTo W i).length co), (22, .I (W.nodes[i])), (24, .slice e W.heads.length f), (25, .I i)] ?_
  have C : i < W.heads.length := by omega
  refine uX 28 (i : Int) H 1 rfl i (by omega) (List.getElem?_eq_getElem C) ?_
  intro T U _ D H
  obtain ⟨_, rfl, E, _, _, _⟩ := hdr_open D
  obtain ⟨rfl, _, _, _⟩ := cid_open E
  refine uV 53 0 (H.fc 0 rfl) ?_
  refine uP 1 ?_
  refine uV 29 4 (H.cells 0 rfl) ?_
  refine uP 1 ?_
  have F : i < W.chunks.length := by omega
  refine uX 29 (i : Int) H 3 rfl i (by omega) (List.getElem?_eq_getElem F) ?_
  intro V X _ y H
  obtain ⟨h, j, rfl⟩ := Shape.slice_form' y
  have H := H.addR y
  refine uV 23 0 (H.fc 1 rfl) ?_
  refine uP 1 ?_
  refine RW.new (κ := .chn) (d := some 34) (r := [(18, .seq), (19, .seq)]) (o := .cells #[.I 9, .I 0, .I (W.nodes[i]), .int .u64 0, .int .u64 0, .int .u64 0, .int .u64 0, .int .u64 0, .bool false, .bool false, .slice none 0 0, .slice none 0 0, .slice none 0 0, .int .u64 (((W.heads[i]).id).version), .I (((W.heads[i]).id).index), .int .u64 (((W.heads[i]).id).epoch), .I ((W.heads[i]).kk), .I ((W.heads[i]).nn), .I ((W.heads[i]).size), .int .u32 ((((W.heads[i]).sum).toNat : Nat) : Int), .slice h (W.chunks[i]).length j, .int .u64 0, .int .u64 0, .I 0, .string (⟨#[]⟩), .I 0, .slice none 0 0] 57 (0, 0)) (v := fun b => .slice (some ⟨b, 0, none⟩) 1 1) (fun b => by as_aux_lemma => kernel_rfl) (nofun) H ?_
  intro Y _ H
  have H := H.freeze 0 rfl msgS ([⟨9, 0, W.nodes[i], 0, 0, 0, 0, 0, false, false, [], ⟨[], []⟩, ⟨((W.heads[i]).id), (W.heads[i]).kk, (W.heads[i]).nn, (W.heads[i]).size, (W.heads[i]).sum⟩, W.chunks[i], 0, 0, 0, ⟨#[]⟩, 0, []⟩] : List Msg) 1 (by simp [maxLen]) (by first | exact Nat.le_refl _ | simp) (EsP.cons (c := [.I 9, .I 0, .I (W.nodes[i]), .int .u64 0, .int .u64 0, .int .u64 0, .int .u64 0, .int .u64 0, .bool false, .bool false, .slice none 0 0, .slice none 0 0, .slice none 0 0, .int .u64 (((W.heads[i]).id).version), .I (((W.heads[i]).id).index), .int .u64 (((W.heads[i]).id).epoch), .I ((W.heads[i]).kk), .I ((W.heads[i]).nn), .I ((W.heads[i]).size), .int .u32 ((((W.heads[i]).sum).toNat : Nat) : Int), .slice h (W.chunks[i]).length j, .int .u64 0, .int .u64 0, .I 0, .string (⟨#[]⟩), .I 0, .slice none 0 0]) (msg_mk (l0 := [.I 9]) (y0 := 9) (l1 := [.I 0]) (y1 := 0) (l2 := [.I (W.nodes[i])]) (y2 := W.nodes[i]) (l3 := [.int .u64 0]) (y3 := 0) (l4 := [.int .u64 0]) (y4 := 0) (l5 := [.int .u64 0]) (y5 := 0) (l6 := [.int .u64 0]) (y6 := 0) (l7 := [.int .u64 0]) (y7 := 0) (l8 := [.bool false]) (y8 := false) (l9 := [.bool false]) (y9 := false) (l10 := [.slice none 0 0]) (y10 := []) (l11 := [.slice none 0 0, .slice none 0 0]) (y11 := ⟨[], []⟩) (l12 := [.int .u64 (((W.heads[i]).id).version), .I (((W.heads[i]).id).index), .int .u64 (((W.heads[i]).id).epoch), .I ((W.heads[i]).kk), .I ((W.heads[i]).nn), .I ((W.heads[i]).size), .int .u32 ((((W.heads[i]).sum).toNat : Nat) : Int)]) (y12 := ⟨((W.heads[i]).id), (W.heads[i]).kk, (W.heads[i]).nn, (W.heads[i]).size, (W.heads[i]).sum⟩) (l13 := [.slice h (W.chunks[i]).length j]) (y13 := W.chunks[i]) (l14 := [.int .u64 0]) (y14 := 0) (l15 := [.int .u64 0]) (y15 := 0) (l16 := [.I 0]) (y16 := 0) (l17 := [.string (⟨#[]⟩)]) (y17 := ⟨#[]⟩) (l18 := [.I 0]) (y18 := 0) (l19 := [.slice none 0 0]) (y19 := []) (Shape.int_mk (by decide)) (Shape.int_mk (by decide)) i64a (Shape.int_mk (by decide)) (Shape.int_mk (by decide)) (Shape.int_mk (by decide)) (Shape.int_mk (by decide)) (Shape.int_mk (by decide)) Shape.bool_mk Shape.bool_mk Shape.slice_nil (conf_mk Shape.slice_nil Shape.slice_nil) (hdr_mk (cid_mk u64a i64a u64a) i64a i64a i64a Shape.bv_mk) (H.rp 0 rfl) (Shape.int_mk (by decide)) (Shape.int_mk (by decide)) (Shape.int_mk (by decide)) ⟨rfl, by first | assumption | (simp [maxLen]; done) | decide⟩ (Shape.int_mk (by decide)) Shape.slice_nil) EsP.nil)
  have H : Hp w S [] [_] [_] [Rp (Shape.slice msgS) [.slice (some ⟨Y, 0, none⟩) 1 1] ([⟨9, 0, W.nodes[i], 0, 0, 0, 0, 0, false, false, [], ⟨[], []⟩, ⟨((W.heads[i]).id), (W.heads[i]).kk, (W.heads[i]).nn, (W.heads[i]).size, (W.heads[i]).sum⟩, W.chunks[i], 0, 0, 0, ⟨#[]⟩, 0, []⟩] : List Msg), _, Fc V X [.slice h (W.chunks[i]).length j], Fc T U (hdrV (W.heads[i])), Fc Q R [.I (W.nodes[i])], _, _, _, _] _ := H
  refine uA 33 33 296 (msgsTo W (i + 1)) H 0 rfl 0 rfl (by rw [← msgsTo_yes (by rw [hak]; simp)]; unfold prepOf; rw [getD_at _ (by omega), getD_at _ (by omega), getD_at _ (by omega)]) (by have := msgsTo_le W (i + 1); omega) ?_
  intro z A _ H _
  have H : Hp w S [] [_] [⟨msgS, 57, .slice z ((msgsTo W (i + 1)).length) A, msgsTo W (i + 1)⟩] [_, _, _, _, _, _, _, _, _] _ := H
  refine uF 1 ?_
  refine uR 1 [.c [2, 0, 1, 0, 0, 2], .l [2, 0, 1, 0, 0], .b 0, .c [3]] ?_
  refine qG (sq 0 3) ?_
  refine uP 1 ?_
  refine uI ((i : Int) + 1) ?_
  refine uF 1 ?_
  have H := H.pick [5, 6, 7, 8] rfl
  exact uB (u (i + 1, z, A) _ ⟨H, by omega⟩ (by first | omega | (simp only []; omega)))
 ·
  refine uR 3 [.c [4]] ?_
  refine qT (.slice ao (msgsTo W i).length co) Try.func58 ?_
  have H : Hp w S [] [_] [] [Rp (Shape.slice msgS) [.slice ao (msgsTo W i).length co] (msgsTo W i), _, _, _, _] _ := H.freezeW 0 rfl
  have Z : i = W.heads.length := by omega
  subst Z
  exact ⟨_, rfl, H.done, _, _, rfl, H.out (H.rp 0 rfl)⟩
set_option maxHeartbeats 4000000 in
theorem r20begin_ok {S : Nat → Prop} {w : World} {xs : List (BitVec 8)} {a : Option Addr} {c : Nat} (client seq : Int) (key : ByteArray) (h : SB.rep S w [.slice a xs.length c] xs) {R : Res} {rs : List Value} (hR : resS.rep S w rs R) (limit : Int) (hkey : key.size ≤ maxLen) (hc1 : 0 ≤ client ∧ client ≤ 18446744073709551615) (hc2 : 0 ≤ seq ∧ seq ≤ 18446744073709551615) (k n : Nat) (hs : xs.length ≤ 65536) (hk : 1 ≤ k) (hkn : k ≤ n) (hn : n ≤ 255) (hnn : R.nodes.length = n) (hlim : 1 ≤ limit ∧ limit ≤ 100000) :
 Calls Try.prog 19 #[.int .u64 client, .int .u64 seq, .string key, .slice a xs.length c, .I k, .I n, .agg rs.toArray, .I limit] w (Ret fun v w' => Ext w w' ∧ ∃ (ds : List Value) (a : Option Addr) (c : Nat), v = .tuple #[.agg ds.toArray, .slice a (msgsOf (beginW client seq key xs k n R limit)).length c, .I 0] ∧ wrS.rep (Nw S w) w' ds (beginW client seq key xs k n R limit) ∧ (Shape.slice msgS).rep (Nw S w) w' [.slice a (msgsOf (beginW client seq key xs k n R limit)).length c] (msgsOf (beginW client seq key xs k n R limit))) := by
 obtain ⟨B, C, rfl, _, _, D, _⟩ := res_open hR
 have henc := enc_len (xs := xs) hkn
 have hhl : (headsOf ⟨R.version, 0, R.epoch⟩ xs.length k (enc xs k n)).length = (enc xs k n).length := headsOf_len
 have hRn : 0 ≤ (0 : Int) := by decide
 refine uS1 Try.func19 ?_
 have H := Hp.startF (.rp h (.rp D .nil))
 refine uR 1 [.c [0], .c [1]] ?_
 refine qG (sq 0 4) ?_
 refine uC ((resV R B C).toArray) 27 H ?_
 intro K _ H
 refine uC ((wrZ).toArray) 32 H ?_
 intro E _ H
 refine uF 2 ?_
 refine uR 1 [.c [1, 0], .c [2]] ?_
 refine qG (sq 0 9) ?_
 refine uP 3 ?_
 refine uK (r4enc_ok (xs := xs) k n (H.rp 0 rfl) hs hk hkn hn) ?_
 rintro _ _ F ⟨j, l, rfl, G⟩
 have H := H.addM F G
 refine uF 5 ?_
 refine uR 2 [.c [2, 0, 0], .c [2, 0, 1], .c [3]] ?_
 refine qG (sq 0 17) ?_
 refine uP 4 ?_
 refine uV 25 2 (H.cells 1 rfl) ?_
 refine uP 5 ?_
 refine uN 40 ((R.nodes.length : Nat) : Int) (n : Int) (fun m => ?_) (fun m => ?_)
 ·
  exact absurd m (by omega)
 ·
  refine uP 4 ?_
  refine uD 44 ((limit : Int) < 1) (fun p => ?_) (fun p => ?_)
  ·
   exact absurd p (by omega)
  ·
   refine uF 3 ?_
   refine qD ((limit : Int) > 100000) (fun q => ?_) (fun q => ?_)
   ·
    exact absurd q (by omega)
   ·
    refine qR 2 [.c [3, 0], .c [4]] [(0, .int .u64 client), (1, .int .u64 seq), (2, .string key), (3, .slice a xs.length c), (4, .I k), (7, .I limit), (14, .P K 0), (16, .P E 0), (19, .slice j (enc xs k n).length l)] ?_
    refine qG (sq 0 15) ?_
    refine uP 2 ?_
    refine uV 22 1 (H.cells 1 rfl) ?_
    refine uP 1 ?_
    refine uV 22 3 (H.cells 1 rfl) ?_
    refine uP 4 ?_
    refine uK (r4heads_ok (cs := enc xs k n) (id := ⟨R.version, 0, R.epoch⟩) xs.length k (H.rp 0 rfl) (cid_mk u64a (Shape.int_mk (by decide)) u64a) hs hk (by rw [henc]; exact hkn) (by rw [henc]; exact hn) enc_allE) ?_
    rintro _ _ x ⟨g, i, rfl, y⟩
    have H := H.addM x y
    refine uF 5 ?_
    refine uR 1 [.c [4, 0], .c [5]] ?_
    refine qG (sq 0 13) ?_
    refine uP 5 ?_
    refine RW.new (κ := .seq) (d := some 67) (r := (sq 6 13)) (o := .cells #[] 3 (0, 0)) (v := fun b => .slice (some ⟨b, 0, none⟩) 0 0) (fun b => by as_aux_lemma => kernel_rfl) (nofun) H ?_
    intro J _ H
    refine uP 1 ?_
    refine uV 25 2 (H.cells 2 rfl) ?_
    have H := H.toOwn (sh := Shape.int .i64) (xs := []) (cap := 0) (by rfl) (Nat.le_refl _) (Nat.zero_le _) (by simp) EsP.nil
    have H : Hp w S [] [_, _] [⟨Shape.int .i64, 3, .slice (some ⟨J, 0, none⟩) 0 0, []⟩] [_, _, _, _] _ := H
    refine uA 25 25 8 R.nodes H 0 rfl 3 rfl (rfl) (by omega) ?_
    intro e f _ H _
    have H : Hp w S [] [_, _] [⟨Shape.int .i64, 3, .slice e R.nodes.length f, R.nodes⟩] [_, _, _, _] _ := H
    refine uP 2 ?_
    refine uC ((wrZ).toArray) 32 H ?_
    intro _ _ H
    refine uW 32 0 #[.int .u64 client, .int .u64 seq, .string key, .slice g ((headsOf (⟨R.version, 0, R.epoch⟩) xs.length k (enc xs k n)).length) i, .slice j (enc xs k n).length l, .slice e R.nodes.length f, .slice none 0 0, .I 0, .I limit, .I 0] H 0 rfl ?_
    intro s H
    refine uF 0 ?_
    refine uR 1 [.c [5, 0], .c [6]] ?_
    refine WK.draw1 3 [(0, .qui), (1, .qui), (2, .chn)] [(0, .qui), (1, .qui), (2, .chn), (3, .seq), (4, .seq), (5, .seq)] Try_mixed (by as_aux_lemma => kernel_rfl) (by as_aux_lemma => kernel_rfl) (by as_aux_lemma => kernel_rfl) ?_
    have H := H.draw
    generalize ({ s with drawn := s.drawn + 1 } : World) = L at H ⊢
    refine uV 32 0 (H.cells 0 rfl) ?_
    refine uV 32 0 (H.cells 0 rfl) ?_
    have H : Hp w S [] [_, _, _] [] [Rp (Shape.slice (Shape.int .i64)) [.slice e R.nodes.length f] R.nodes, _, _, _, _] _ := H.freezeW 0 rfl
    refine uK (r20msgs_spec (W := ⟨client, seq, key, headsOf (⟨R.version, 0, R.epoch⟩) xs.length k (enc xs k n), enc xs k n, R.nodes, [], 0, limit, 0⟩) (wr_mk (l0 := [.int .u64 client]) (y0 := client) (l1 := [.int .u64 seq]) (y1 := seq) (l2 := [.string key]) (y2 := key) (l3 := [.slice g ((headsOf (⟨R.version, 0, R.epoch⟩) xs.length k (enc xs k n)).length) i]) (y3 := headsOf (⟨R.version, 0, R.epoch⟩) xs.length k (enc xs k n)) (l4 := [.slice j (enc xs k n).length l]) (y4 := enc xs k n) (l5 := [.slice e R.nodes.length f]) (y5 := R.nodes) (l6 := [.slice none 0 0]) (y6 := []) (l7 := [.I 0]) (y7 := 0) (l8 := [.I limit]) (y8 := limit) (l9 := [.I 0]) (y9 := 0) u64a u64a ⟨rfl, hkey⟩ (H.rp 1 rfl) (H.rp 2 rfl) (H.rp 0 rfl) Shape.slice_nil (Shape.int_mk (by decide)) i64a (Shape.int_mk (by decide))) (by constructor <;> (simp only []; omega)) (by simp only []; omega) rfl) ?_
    rintro _ _ z ⟨t, u, rfl, A⟩
    have H := H.addM z A
    refine uW 32 0 #[.int .u64 client, .int .u64 seq, .string key, .slice g ((headsOf (⟨R.version, 0, R.epoch⟩) xs.length k (enc xs k n)).length) i, .slice j (enc xs k n).length l, .slice e R.nodes.length f, .slice none 0 0, .I 0, .I limit, .I 0] H 1 rfl ?_
    intro _ H
    refine qF 2 [(16, .P E 0), (17, .slice t ((msgsOf (⟨client, seq, key, headsOf (⟨R.version, 0, R.epoch⟩) xs.length k (enc xs k n), enc xs k n, R.nodes, [], 0, limit, 0⟩)).length) u), (18, .I 0)] ?_
    refine qRB (.tuple #[.agg #[.int .u64 client, .int .u64 seq, .string key, .slice g ((headsOf (⟨R.version, 0, R.epoch⟩) xs.length k (enc xs k n)).length) i, .slice j (enc xs k n).length l, .slice e R.nodes.length f, .slice none 0 0, .I 0, .I limit, .I 0], .slice t ((msgsOf (⟨client, seq, key, headsOf (⟨R.version, 0, R.epoch⟩) xs.length k (enc xs k n), enc xs k n, R.nodes, [], 0, limit, 0⟩)).length) u, .I 0]) Try.func19 (v3 (.cell 16 32) (.tmp 17) (.tmp 18) (vC (H.cells 1 rfl)) vT vT) ?_
    exact ⟨_, rfl, H.done, [.int .u64 client, .int .u64 seq, .string key, .slice g ((headsOf (⟨R.version, 0, R.epoch⟩) xs.length k (enc xs k n)).length) i, .slice j (enc xs k n).length l, .slice e R.nodes.length f, .slice none 0 0, .I 0, .I limit, .I 0], _, _, rfl, H.out (wr_mk (l0 := [.int .u64 client]) (y0 := client) (l1 := [.int .u64 seq]) (y1 := seq) (l2 := [.string key]) (y2 := key) (l3 := [.slice g ((headsOf (⟨R.version, 0, R.epoch⟩) xs.length k (enc xs k n)).length) i]) (y3 := headsOf (⟨R.version, 0, R.epoch⟩) xs.length k (enc xs k n)) (l4 := [.slice j (enc xs k n).length l]) (y4 := enc xs k n) (l5 := [.slice e R.nodes.length f]) (y5 := R.nodes) (l6 := [.slice none 0 0]) (y6 := []) (l7 := [.I 0]) (y7 := 0) (l8 := [.I limit]) (y8 := limit) (l9 := [.I 0]) (y9 := 0) u64a u64a ⟨rfl, hkey⟩ (H.rp 2 rfl) (H.rp 3 rfl) (H.rp 1 rfl) Shape.slice_nil (Shape.int_mk (by decide)) i64a (Shape.int_mk (by decide))), H.out (H.rp 0 rfl)⟩
end Go.Proofs.Ytppcdmbkgficiaa
