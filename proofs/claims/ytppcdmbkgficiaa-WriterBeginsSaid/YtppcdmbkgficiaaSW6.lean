import Derived.Test.YtppcdmbkgficiaaSBxA
import Derived.Test.YtppcdmbkgficiaaSW4
namespace Go.Proofs.Ytppcdmbkgficiaa
open Go.BX
theorem gotOf_keep {W D : Wr} {e kind frm : Int} {hd : Hdr} {ok : Bool} (h : (D, e) = gotOf W kind frm hd ok) : D.heads = W.heads ∧ D.nodes = W.nodes ∧ D.chunks = W.chunks := by
 unfold gotOf at h
 split at h
 · obtain ⟨rfl, -⟩ := Prod.mk.inj h; exact ⟨rfl, rfl, rfl⟩
 · split at h
   · obtain ⟨rfl, -⟩ := Prod.mk.inj h; exact ⟨rfl, rfl, rfl⟩
   · split at h
     · obtain ⟨rfl, -⟩ := Prod.mk.inj h; exact ⟨rfl, rfl, rfl⟩
     · split at h <;> (obtain ⟨rfl, -⟩ := Prod.mk.inj h; exact ⟨rfl, rfl, rfl⟩)
def settleF (W : Wr) : List Msg := if rightW W = true ∧ W.done = 1 then settlesTo W W.heads.length else []
theorem encode_bad {S : Nat → Prop} {w : World} {xs : List (BitVec 8)} {a : Option Addr} {c : Nat} (k n : Int) (h : SB.rep S w [.slice a xs.length c] xs) (hb : ¬ (xs.length ≤ 65536 ∧ 1 ≤ k ∧ k ≤ n ∧ n ≤ 255)) :
 Calls Try.prog 29 #[.slice a xs.length c, .I k, .I n] w (Ret fun v w' => Ext w w' ∧ v = .tuple #[.slice none 0 0, .I 2]) := by
 refine uS1 Try.func29 ?_
 have H := Hp.startF (.rp h .nil)
 refine uR 3 [.c [1, 0], .c [2]] ?_
 refine qG (sq 0 10) ?_
 refine uP 4 ?_
 refine uK (sizes_bad (S := fun _ => True) ((xs.length : Nat) : Int) k n (by omega)) ?_
 rintro _ _ b rfl
 have H := H.ext b
 refine uF 5 ?_
 refine uR 6 [.c [2, 0, 1, 0, 1], .c [3]] ?_
 refine qT (.tuple #[.slice none 0 0, .I 2]) Try.func29 ?_
 exact ⟨_, rfl, H.done, rfl⟩
theorem enc_all {xs : List (BitVec 8)} {k n : Nat} : ∀ d ∈ enc xs k n, d.length = lenOf xs.length k := by
 intro d hd
 unfold enc at hd
 rcases List.mem_append.1 hd with h | h
 · exact dataOf_all _ _ _ d h
 · obtain ⟨j, _, rfl⟩ := List.mem_map.1 h
   exact mixAll_len List.length_replicate (dataOf_all _ _ _)
theorem set1_spec {S : Nat → Prop} {w : World} (i : Int) :
 Calls Try.prog 64 #[.I i] w (Ret fun v w' => Ext w w' ∧ v = .bool true) := by
 refine uS1 Try.func64 ?_
 have H := Hp.startF (w := w) (S := S) (G := []) .nil
 refine uR 4 [.c [2]] ?_
 refine qT (.bool true) Try.func64 ?_
 exact ⟨_, rfl, H.done, rfl⟩
theorem set2_spec {S : Nat → Prop} {w : World} (i : Int) :
 Calls Try.prog 65 #[.I i] w (Ret fun v w' => Ext w w' ∧ v = .agg ((msgZ).set 0 (.I 11)).toArray) := by
 refine uS1 Try.func65 ?_
 have H := Hp.startF (w := w) (S := S) (G := []) .nil
 refine uR 1 [.c [0], .c [1]] ?_
 refine qG (sq 0 1) ?_
 refine uC ((msgZ).toArray) 57 H ?_
 intro _ _ H
 refine uF 0 ?_
 refine uR 1 [.c [1, 0], .c [2]] ?_
 refine qG (sq 0 2) ?_
 refine uP 1 ?_
 refine uW 57 0 ((msgZ).set 0 (.I 11)).toArray H 0 rfl ?_
 intro _ H
 refine uF 0 ?_
 refine qRB (.agg ((msgZ).set 0 (.I 11)).toArray) Try.func65 (v1 (.cell 2 57) (vC (H.cells 0 rfl))) ?_
 exact ⟨_, rfl, H.done, rfl⟩
set_option maxHeartbeats 4000000 in
theorem messages_settle {S : Nat → Prop} {w : World} {W : Wr} {cs : List Value} (hW : wrS.rep S w cs W) (hR : W.heads.length = W.chunks.length ∧ W.heads.length = W.nodes.length) (hn : W.heads.length ≤ 1000000) :
 Calls Try.prog 63 #[.agg cs.toArray, .func (.func 64) #[] #[], .func (.func 65) #[] #[]] w (Ret fun v w' => Ext w w' ∧ ∃ (a : Option Addr) (c : Nat), v = .slice a (settlesTo W W.heads.length).length c ∧ (Shape.slice msgS).rep (Nw S w) w' [.slice a (settlesTo W W.heads.length).length c] (settlesTo W W.heads.length)) := by
 obtain ⟨e, f, h, j, k, m, n, q, rfl, _, _, _, N, O, Q, R, _, _, _⟩ := wr_open hW
 refine uS1 Try.func63 ?_
 have H := Hp.startF (.rp N (.rp O (.rp Q (.rp R .nil))))
 refine uR 1 [.c [0], .c [1]] ?_
 refine qG (sq 0 2) ?_
 refine uC ((wrV W e f h j k m n q).toArray) 32 H ?_
 intro t _ H
 refine uF 1 ?_
 refine uR 4 [.c [2, 0, 0], .c [2, 0, 1], .c [3]] ?_
 refine qG (sq 0 4) ?_
 refine uP 1 ?_
 refine uV 28 3 (H.cells 0 rfl) ?_
 refine uF 2 ?_
 refine uR 1 [.c [2, 0, 1, 0], .b 0, .c [3]] ?_
 have H := H.ownNil msgS 57
 refine uL (α := Nat × Option Addr × Nat) (g := 63) (p := [2, 0, 1, 0, 0]) (fun (i, ao, co) => [(1, .func (.func 64) #[] #[]), (2, .func (.func 65) #[] #[]), (3, .P t 0), (7, .slice ao (settlesTo W i).length co), (12, .slice e W.heads.length f), (13, .I ((W.heads.length : Nat) : Int)), (14, .I i)]) (fun (i, ao, co) w' => Hp w S [] [(t, .cells (wrV W e f h j k m n q).toArray 32 (0, 0))] [⟨msgS, 57, .slice ao (settlesTo W i).length co, settlesTo W i⟩] [Rp (Shape.slice hdrS) [.slice e W.heads.length f] W.heads, Rp (Shape.slice SB) [.slice h W.chunks.length j] W.chunks, Rp (Shape.slice (Shape.int .i64)) [.slice k W.nodes.length m] W.nodes, Rp (Shape.slice (Shape.int .i64)) [.slice n W.acks.length q] W.acks] w' ∧ i ≤ W.heads.length) (fun (i, ao, co) => W.heads.length - i) (0, none, 0) ⟨H, Nat.zero_le _⟩ ?_
 rintro ⟨i, ao, co⟩ _ ⟨H, _⟩ u
 refine uR 3 [.c [2, 0, 1, 0, 0, 1, 0], .c [2, 0, 1, 0, 0, 2], .l [2, 0, 1, 0, 0], .b 0, .c [3]] ?_
 refine qD (((i : Int) : Int) < ((W.heads.length : Nat) : Int)) (fun h5 => ?_) (fun h5 => ?_)
 ·
  refine uR 4 [.c [2, 0, 1, 0, 0, 2, 0, 0, 0], .c [2, 0, 1, 0, 0, 2, 0, 0, 1], .b 1, .c [2, 0, 1, 0, 0, 3], .l [2, 0, 1, 0, 0], .b 0, .c [3]] ?_
  refine qG (sq 0 6) ?_
  refine uP 1 ?_
  have T : i < W.heads.length := by omega
  refine uX 28 (i : Int) H 0 rfl i (by omega) (List.getElem?_eq_getElem T) ?_
  intro b7 o8 _ G H
  obtain ⟨_, rfl, J, _, _, _⟩ := hdr_open G
  obtain ⟨rfl, _, _, _⟩ := cid_open J
  refine uV 53 0 (H.fc 0 rfl) ?_
  refine uC #[.int .u64 0, .I 0, .int .u64 0, .I 0, .I 0, .I 0, .int .u32 0] 53 H ?_
  intro F _ H
  refine uP 1 ?_
  refine uW 53 0 (hdrV (W.heads[i])).toArray H 0 rfl ?_
  intro _ H
  refine uF 0 ?_
  refine uR 1 [.c [2, 0, 1, 0, 0, 2, 0, 0, 1, 0], .c [2, 0, 1, 0, 0, 2, 0, 0, 2], .b 1, .c [2, 0, 1, 0, 0, 3], .l [2, 0, 1, 0, 0], .b 0, .c [3]] ?_
  refine qG (sq 0 3) ?_
  refine uP 2 ?_
  refine uK (set1_spec (S := fun _ => True) (i : Int)) ?_
  rintro _ _ K rfl
  have H := H.ext K
  refine uF 0 ?_
  refine uR 2 [.c [2, 0, 1, 0, 0, 2, 0, 0, 2, 0, 0], .c [2, 0, 1, 0, 0, 2, 0, 0, 2, 0, 1], .b 1, .c [2, 0, 1, 0, 0, 3], .l [2, 0, 1, 0, 0], .b 0, .c [3]] ?_
  refine qG (sq 0 5) ?_
  refine uP 2 ?_
  refine uK (set2_spec (S := fun _ => True) (i : Int)) ?_
  rintro _ _ L rfl
  have H := H.ext L
  refine uC ((msgZ).toArray) 57 H ?_
  intro s _ H
  refine uW 57 0 ((msgZ).set 0 (.I 11)).toArray H 0 rfl ?_
  intro _ H
  refine qF 0 [(1, .func (.func 64) #[] #[]), (2, .func (.func 65) #[] #[]), (3, .P t 0), (7, .slice ao (settlesTo W i).length co), (8, .I i), (9, .P F 0), (10, .P s 0), (12, .slice e W.heads.length f), (13, .I ((W.heads.length : Nat) : Int)), (14, .I i)] ?_
  refine uR 1 [.c [2, 0, 1, 0, 0, 2, 0, 0, 2, 0, 1, 0], .c [2, 0, 1, 0, 0, 2, 0, 0, 2, 0, 2], .b 1, .c [2, 0, 1, 0, 0, 3], .l [2, 0, 1, 0, 0], .b 0, .c [3]] ?_
  refine WK.drawH1 [s] (.leaf [(0, .qui), (1, .qui), (2, .qui), (3, .qui), (4, .qui), (5, .qui), (6, .qui), (7, .seq), (8, .qui), (9, .seq)]) Try_mixed (by as_aux_lemma => kernel_rfl) (by as_aux_lemma => kernel_rfl) ?_
  intro U x
  have H := H.draw
  rw [← x] at H
  clear x
  have hS := Chg.refl U [s]
  refine RG.leaf' [(0, .qui), (1, .qui), (2, .qui), (3, .qui), (4, .qui), (5, .qui), (6, .qui), (7, .seq), (8, .qui), (9, .seq)] (by as_aux_lemma => kernel_rfl) ?_
  refine uHP hS 1 ?_
  refine uHV 25 5 hS (H.cells 2 rfl) (nq1 (H.raws 2 0 rfl rfl (by decide))) ?_
  refine uHP hS 1 ?_
  have M : i < W.nodes.length := by omega
  refine uHX 25 (i : Int) hS H 3 rfl i (by omega) (List.getElem?_eq_getElem M) ?_
  intro V X _ y H
  have a0 := Shape.i64_bd y
  obtain ⟨rfl, -⟩ := y
  refine uHV 3 0 hS (H.fc 0 rfl) (nq1 (H.fcne 0 rfl 0 rfl)) ?_
  refine uHV 53 0 hS (H.cells 1 rfl) (nq1 (H.raws 1 0 rfl rfl (by decide))) ?_
  refine uHP hS 1 ?_
  have Hr := H
  refine RH.sto ?_
  refine uWC 3 2 (((msgZ).set 0 (.I 11)).set 2 (.I (W.nodes[i]))).toArray H 0 rfl ?_
  intro _ D H
  have z := hS.sto D (.inr (by simp))
  refine ⟨z, ?_⟩
  have hS := z
  refine uHP hS 1 ?_
  refine RH.sto ?_
  refine uWC 53 13 #[.I 11, .I 0, .I (W.nodes[i]), .int .u64 0, .int .u64 0, .int .u64 0, .int .u64 0, .int .u64 0, .bool false, .bool false, .slice none 0 0, .slice none 0 0, .slice none 0 0, .int .u64 (((W.heads[i]).id).version), .I (((W.heads[i]).id).index), .int .u64 (((W.heads[i]).id).epoch), .I ((W.heads[i]).kk), .I ((W.heads[i]).nn), .I ((W.heads[i]).size), .int .u32 ((((W.heads[i]).sum).toNat : Nat) : Int), .slice none 0 0, .int .u64 0, .int .u64 0, .I 0, .string (⟨#[]⟩), .I 0, .slice none 0 0] H 0 rfl ?_
  intro _ E H
  have A := hS.sto E (.inr (by simp))
  refine ⟨A, ?_⟩
  have hS := A
  refine uHF hS 0 ?_
  refine qG (sq 0 5) ?_
  refine uP 1 ?_
  refine uV 57 0 (H.cells 0 rfl) ?_
  refine RW.new (κ := .seq) (d := some 35) (r := (sq 3 5)) (o := .cells #[.I 11, .I 0, .I (W.nodes[i]), .int .u64 0, .int .u64 0, .int .u64 0, .int .u64 0, .int .u64 0, .bool false, .bool false, .slice none 0 0, .slice none 0 0, .slice none 0 0, .int .u64 (((W.heads[i]).id).version), .I (((W.heads[i]).id).index), .int .u64 (((W.heads[i]).id).epoch), .I ((W.heads[i]).kk), .I ((W.heads[i]).nn), .I ((W.heads[i]).size), .int .u32 ((((W.heads[i]).sum).toNat : Nat) : Int), .slice none 0 0, .int .u64 0, .int .u64 0, .I 0, .string (⟨#[]⟩), .I 0, .slice none 0 0] 57 (0, 0)) (v := fun b => .slice (some ⟨b, 0, none⟩) 1 1) (fun b => by as_aux_lemma => kernel_rfl) (nofun) H ?_
  intro Y _ H
  have H := H.freeze 0 rfl msgS ([⟨11, 0, W.nodes[i], 0, 0, 0, 0, 0, false, false, [], ⟨[], []⟩, ⟨((W.heads[i]).id), (W.heads[i]).kk, (W.heads[i]).nn, (W.heads[i]).size, (W.heads[i]).sum⟩, [], 0, 0, 0, ⟨#[]⟩, 0, []⟩] : List Msg) 1 (by simp [maxLen]) (by first | exact Nat.le_refl _ | simp) (EsP.cons (c := [.I 11, .I 0, .I (W.nodes[i]), .int .u64 0, .int .u64 0, .int .u64 0, .int .u64 0, .int .u64 0, .bool false, .bool false, .slice none 0 0, .slice none 0 0, .slice none 0 0, .int .u64 (((W.heads[i]).id).version), .I (((W.heads[i]).id).index), .int .u64 (((W.heads[i]).id).epoch), .I ((W.heads[i]).kk), .I ((W.heads[i]).nn), .I ((W.heads[i]).size), .int .u32 ((((W.heads[i]).sum).toNat : Nat) : Int), .slice none 0 0, .int .u64 0, .int .u64 0, .I 0, .string (⟨#[]⟩), .I 0, .slice none 0 0]) (msg_mk (l0 := [.I 11]) (y0 := 11) (l1 := [.I 0]) (y1 := 0) (l2 := [.I (W.nodes[i])]) (y2 := W.nodes[i]) (l3 := [.int .u64 0]) (y3 := 0) (l4 := [.int .u64 0]) (y4 := 0) (l5 := [.int .u64 0]) (y5 := 0) (l6 := [.int .u64 0]) (y6 := 0) (l7 := [.int .u64 0]) (y7 := 0) (l8 := [.bool false]) (y8 := false) (l9 := [.bool false]) (y9 := false) (l10 := [.slice none 0 0]) (y10 := []) (l11 := [.slice none 0 0, .slice none 0 0]) (y11 := ⟨[], []⟩) (l12 := [.int .u64 (((W.heads[i]).id).version), .I (((W.heads[i]).id).index), .int .u64 (((W.heads[i]).id).epoch), .I ((W.heads[i]).kk), .I ((W.heads[i]).nn), .I ((W.heads[i]).size), .int .u32 ((((W.heads[i]).sum).toNat : Nat) : Int)]) (y12 := ⟨((W.heads[i]).id), (W.heads[i]).kk, (W.heads[i]).nn, (W.heads[i]).size, (W.heads[i]).sum⟩) (l13 := [.slice none 0 0]) (y13 := []) (l14 := [.int .u64 0]) (y14 := 0) (l15 := [.int .u64 0]) (y15 := 0) (l16 := [.I 0]) (y16 := 0) (l17 := [.string (⟨#[]⟩)]) (y17 := ⟨#[]⟩) (l18 := [.I 0]) (y18 := 0) (l19 := [.slice none 0 0]) (y19 := []) (Shape.int_mk (by decide)) (Shape.int_mk (by decide)) i64a (Shape.int_mk (by decide)) (Shape.int_mk (by decide)) (Shape.int_mk (by decide)) (Shape.int_mk (by decide)) (Shape.int_mk (by decide)) Shape.bool_mk Shape.bool_mk Shape.slice_nil (conf_mk Shape.slice_nil Shape.slice_nil) (hdr_mk (cid_mk u64a i64a u64a) i64a i64a i64a Shape.bv_mk) Shape.slice_nil (Shape.int_mk (by decide)) (Shape.int_mk (by decide)) (Shape.int_mk (by decide)) ⟨rfl, by first | assumption | (simp [maxLen]; done) | decide⟩ (Shape.int_mk (by decide)) Shape.slice_nil) EsP.nil)
  have H : Hp w S [] [_, _, _] [_] [Rp (Shape.slice msgS) [.slice (some ⟨Y, 0, none⟩) 1 1] ([⟨11, 0, W.nodes[i], 0, 0, 0, 0, 0, false, false, [], ⟨[], []⟩, ⟨((W.heads[i]).id), (W.heads[i]).kk, (W.heads[i]).nn, (W.heads[i]).size, (W.heads[i]).sum⟩, [], 0, 0, 0, ⟨#[]⟩, 0, []⟩] : List Msg), Fc V X [.I (W.nodes[i])], Fc b7 o8 (hdrV (W.heads[i])), _, _, _, _] _ := H
  refine uA 33 33 296 (settlesTo W (i + 1)) H 0 rfl 0 rfl (by rw [← settlesTo_snoc]; unfold settleOf; rw [getD_at _ (by omega), getD_at _ (by omega)]) (by simp only [settlesTo, List.length_map, List.length_range]; omega) ?_
  intro B C _ H _
  have H : Hp w S [] [_, _, _] [⟨msgS, 57, .slice B ((settlesTo W (i + 1)).length) C, settlesTo W (i + 1)⟩] [_, _, _, _, _, _, _] _ := H
  refine uF 1 ?_
  refine uR 1 [.c [2, 0, 1, 0, 0, 3], .l [2, 0, 1, 0, 0], .b 0, .c [3]] ?_
  refine qG (sq 0 2) ?_
  refine uI ((i : Int) + 1) ?_
  refine uF 1 ?_
  have H := H.pick [3, 4, 5, 6] rfl
  have H := H.frontM 2 (M' := [(t, .cells (wrV W e f h j k m n q).toArray 32 (0, 0)), (s, .cells #[.I 11, .I 0, .I (W.nodes[i]), .int .u64 0, .int .u64 0, .int .u64 0, .int .u64 0, .int .u64 0, .bool false, .bool false, .slice none 0 0, .slice none 0 0, .slice none 0 0, .int .u64 (((W.heads[i]).id).version), .I (((W.heads[i]).id).index), .int .u64 (((W.heads[i]).id).epoch), .I ((W.heads[i]).kk), .I ((W.heads[i]).nn), .I ((W.heads[i]).size), .int .u32 ((((W.heads[i]).sum).toNat : Nat) : Int), .slice none 0 0, .int .u64 0, .int .u64 0, .I 0, .string (⟨#[]⟩), .I 0, .slice none 0 0] 57 (0, 0)), (F, .cells (hdrV (W.heads[i])).toArray 53 (0, 0))]) rfl
  have H := H.drop (M' := [(t, .cells (wrV W e f h j k m n q).toArray 32 (0, 0))]) (W' := [⟨msgS, 57, .slice B ((settlesTo W (i + 1)).length) C, settlesTo W (i + 1)⟩]) (by repeat (first | exact List.Sublist.refl _ | apply List.Sublist.cons_cons | apply List.Sublist.cons)) (by repeat (first | exact List.Sublist.refl _ | apply List.Sublist.cons_cons | apply List.Sublist.cons))
  exact uB (u (i + 1, B, C) _ ⟨H, by omega⟩ (by first | omega | (simp only []; omega)))
 ·
  refine qR 3 [.c [4]] [(6, .slice ao (settlesTo W i).length co)] ?_
  refine qT (.slice ao (settlesTo W i).length co) Try.func63 ?_
  have H : Hp w S [] [_] [] [Rp (Shape.slice msgS) [.slice ao (settlesTo W i).length co] (settlesTo W i), _, _, _, _] _ := H.freezeW 0 rfl
  have Z : i = W.heads.length := by omega
  subst Z
  exact ⟨_, rfl, H.done, _, _, rfl, H.out (H.rp 0 rfl)⟩
theorem settle_spec {S : Nat → Prop} {w : World} {W : Wr} {cs : List Value} (hW : wrS.rep S w cs W) (hn : W.heads.length ≤ 1000000) :
 Calls Try.prog 27 #[.agg cs.toArray] w (Ret fun v w' => Ext w w' ∧ ∃ (a : Option Addr) (c : Nat) (L : List Msg), v = .slice a L.length c ∧ (Shape.slice msgS).rep (Nw S w) w' [.slice a L.length c] L ∧ L = settleF W) := by
 obtain ⟨h, i, j, k, l, m, n, o, rfl, _, _, d, q, r, s, t, _, _, _⟩ := wr_open hW
 refine uS1 Try.func27 ?_
 have H := Hp.startF (.rp q (.rp r (.rp s (.rp t .nil))))
 refine uR 1 [.c [0], .c [1]] ?_
 refine qG (sq 0 2) ?_
 refine uC ((wrV W h i j k l m n o).toArray) 32 H ?_
 intro _ _ H
 refine uF 1 ?_
 refine uR 2 [.c [1, 0, 0], .c [1, 0, 1], .c [2]] ?_
 refine qG (sq 0 8) ?_
 refine uV 32 0 (H.cells 0 rfl) ?_
 refine uK (right_spec (W := W) (wr_mkV u64a u64a ⟨rfl, d⟩ (H.rp 0 rfl) (H.rp 1 rfl) (H.rp 2 rfl) (H.rp 3 rfl) i64a i64a i64a)) ?_
 rintro _ _ u rfl
 have H := H.ext u
 refine uP 2 ?_
 refine uT 6 (!(rightW W)) (fun b => ?_) (fun b => ?_)
 ·
  replace b : (rightW W) = false := by revert b; cases (rightW W) <;> simp
  refine uF 4 ?_
  refine uR 3 [.c [1, 0, 1, 0, 1], .c [2]] ?_
  refine qT (.slice none 0 0) Try.func27 ?_
  exact ⟨_, rfl, H.done, none, 0, [], rfl, Shape.slice_nil, by unfold settleF; rw [if_neg (by simp_all)]⟩
 ·
  replace b : (rightW W) = true := by revert b; cases (rightW W) <;> simp
  have e : rightW W = true := by first | assumption | (simpa using b)
  refine uP 1 ?_
  refine uV 30 9 (H.cells 0 rfl) ?_
  refine uF 2 ?_
  refine qN W.done 1 (fun z => ?_) (fun z => ?_)
  ·
   refine uR 2 [.c [1, 0, 1, 0, 1], .c [2]] ?_
   refine qT (.slice none 0 0) Try.func27 ?_
   exact ⟨_, rfl, H.done, none, 0, [], rfl, Shape.slice_nil, by unfold settleF; rw [if_neg (by simp_all)]⟩
  ·
   have A := of_decide_eq_true (p := W.heads.length = W.chunks.length ∧ W.heads.length = W.nodes.length) e
   refine uR 2 [.c [2, 0], .c [3]] ?_
   refine qG (sq 0 3) ?_
   refine uV 32 0 (H.cells 0 rfl) ?_
   refine uK (messages_settle (W := W) (wr_mkV u64a u64a ⟨rfl, d⟩ (H.rp 0 rfl) (H.rp 1 rfl) (H.rp 2 rfl) (H.rp 3 rfl) i64a i64a i64a) (by first | assumption | omega) (by omega)) ?_
   rintro _ _ f ⟨x, y, rfl, g⟩
   have H := H.addM f g
   refine qF 1 [(2, .slice x (settlesTo W W.heads.length).length y)] ?_
   refine qT (.slice x (settlesTo W W.heads.length).length y) Try.func27 ?_
   exact ⟨_, rfl, H.done, _, _, _, rfl, H.out (H.rp 0 rfl), by unfold settleF; rw [if_pos (by simp_all)]⟩
def beginW (client seq : Int) (key : ByteArray) (xs : List (BitVec 8)) (k n : Nat) (R : Res) (limit : Int) : Wr :=
 ⟨client, seq, key, headsOf ⟨R.version, 0, R.epoch⟩ xs.length k (enc xs k n), enc xs k n, R.nodes, [], 0, limit, 0⟩
set_option maxHeartbeats 2000000 in
theorem begin_ok {S : Nat → Prop} {w : World} {xs : List (BitVec 8)} {a : Option Addr} {c : Nat} (client seq : Int) (key : ByteArray) (h : SB.rep S w [.slice a xs.length c] xs) {R : Res} {rs : List Value} (hR : resS.rep S w rs R) (limit : Int) (hkey : key.size ≤ maxLen) (hc1 : 0 ≤ client ∧ client ≤ 18446744073709551615) (hc2 : 0 ≤ seq ∧ seq ≤ 18446744073709551615) (k n : Nat) (hs : xs.length ≤ 65536) (hk : 1 ≤ k) (hkn : k ≤ n) (hn : n ≤ 255) (hnn : R.nodes.length = n) (hlim : 1 ≤ limit ∧ limit ≤ 100000) :
 Calls Try.prog 18 #[.int .u64 client, .int .u64 seq, .string key, .slice a xs.length c, .I k, .I n, .agg rs.toArray, .I limit] w (Ret fun v w' => Ext w w' ∧ ∃ (ds : List Value) (a : Option Addr) (c : Nat), v = .tuple #[.agg ds.toArray, .slice a (msgsOf (beginW client seq key xs k n R limit)).length c, .I 0] ∧ wrS.rep (Nw S w) w' ds (beginW client seq key xs k n R limit) ∧ (Shape.slice msgS).rep (Nw S w) w' [.slice a (msgsOf (beginW client seq key xs k n R limit)).length c] (msgsOf (beginW client seq key xs k n R limit))) := by
 obtain ⟨u, x, rfl, _, _, y, _⟩ := res_open hR
 have henc := enc_len (xs := xs) hkn
 have hhl : (headsOf ⟨R.version, 0, R.epoch⟩ xs.length k (enc xs k n)).length = (enc xs k n).length := headsOf_len
 have p : ∀ c ∈ enc xs k n, c.length ≤ 1000000 := fun c hc => by have h1 := enc_all c hc; have h2 := lenOf_le (size := xs.length) (k := k) (by omega); omega
 have hRn : 0 ≤ (0 : Int) := by decide
 refine uS1 Try.func18 ?_
 have H := Hp.startF (.rp h (.rp y .nil))
 refine uR 1 [.c [0], .c [1]] ?_
 refine qG (sq 0 4) ?_
 refine uC ((resV R u x).toArray) 27 H ?_
 intro D _ H
 refine uC ((wrZ).toArray) 32 H ?_
 intro E _ H
 refine uF 2 ?_
 refine uR 1 [.c [1, 0], .c [2]] ?_
 refine qG (sq 0 9) ?_
 refine uP 3 ?_
 refine uK (encode_ok (xs := xs) k n (H.rp 0 rfl) (by omega) (by omega) (by omega) (by omega)) ?_
 rintro _ _ z ⟨g, i, rfl, A⟩
 have H := H.addM z A
 refine uF 5 ?_
 refine uR 2 [.c [2, 0, 0], .c [2, 0, 1], .c [3]] ?_
 refine qG (sq 0 17) ?_
 refine uP 4 ?_
 refine uV 25 2 (H.cells 1 rfl) ?_
 refine uP 5 ?_
 refine uN 40 ((R.nodes.length : Nat) : Int) (n : Int) (fun j => ?_) (fun j => ?_)
 ·
  exact absurd j (by omega)
 ·
  refine uP 4 ?_
  refine uD 44 ((limit : Int) < 1) (fun l => ?_) (fun l => ?_)
  ·
   exact absurd l (by omega)
  ·
   refine uF 3 ?_
   refine qD ((limit : Int) > 100000) (fun m => ?_) (fun m => ?_)
   ·
    exact absurd m (by omega)
   ·
    refine qR 2 [.c [3, 0], .c [4]] [(0, .int .u64 client), (1, .int .u64 seq), (2, .string key), (3, .slice a xs.length c), (4, .I k), (7, .I limit), (14, .P D 0), (16, .P E 0), (19, .slice g (enc xs k n).length i)] ?_
    refine qG (sq 0 15) ?_
    refine uP 2 ?_
    refine uV 22 1 (H.cells 1 rfl) ?_
    refine uP 1 ?_
    refine uV 22 3 (H.cells 1 rfl) ?_
    refine uP 4 ?_
    refine uK (heads_ok (cs := enc xs k n) (id := ⟨R.version, 0, R.epoch⟩) xs.length k (H.rp 0 rfl) (cid_mk u64a (Shape.int_mk (by decide)) u64a) (by omega) (by omega) (by omega) (by omega) (enc_all)) ?_
    rintro _ _ q ⟨e, f, rfl, r⟩
    have H := H.addM q r
    refine uF 5 ?_
    refine uR 1 [.c [4, 0], .c [5]] ?_
    refine qG (sq 0 12) ?_
    refine uP 6 ?_
    refine uV 25 2 (H.cells 1 rfl) ?_
    refine uK (clone_spec (H.rp 3 rfl) (by omega)) ?_
    rintro _ _ - H'
    have H := H.back (M1 := []) (W1 := []) H'
    obtain ⟨b, d, rfl, _, _⟩ := H.ownForm 0 rfl
    have H : Hp w S [] [_, _] [⟨Shape.int .i64, 3, .slice b R.nodes.length d, R.nodes⟩] [_, _, _, _] _ := H
    refine uP 2 ?_
    refine uC ((wrZ).toArray) 32 H ?_
    intro _ _ H
    refine uW 32 0 #[.int .u64 client, .int .u64 seq, .string key, .slice e ((headsOf (⟨R.version, 0, R.epoch⟩) xs.length k (enc xs k n)).length) f, .slice g (enc xs k n).length i, .slice b R.nodes.length d, .slice none 0 0, .I 0, .I limit, .I 0] H 0 rfl ?_
    intro o H
    refine uF 0 ?_
    refine uR 1 [.c [5, 0], .c [6]] ?_
    refine WK.draw1 3 [(0, .qui), (1, .qui), (2, .chn)] [(0, .qui), (1, .qui), (2, .chn), (3, .seq), (4, .seq), (5, .seq)] Try_mixed (by as_aux_lemma => kernel_rfl) (by as_aux_lemma => kernel_rfl) (by as_aux_lemma => kernel_rfl) ?_
    have H := H.draw
    generalize ({ o with drawn := o.drawn + 1 } : World) = F at H ⊢
    refine uV 32 0 (H.cells 0 rfl) ?_
    refine uV 32 0 (H.cells 0 rfl) ?_
    have H : Hp w S [] [_, _, _] [] [Rp (Shape.slice (Shape.int .i64)) [.slice b R.nodes.length d] R.nodes, _, _, _, _] _ := H.freezeW 0 rfl
    refine uK (prepares_spec (W := ⟨client, seq, key, headsOf (⟨R.version, 0, R.epoch⟩) xs.length k (enc xs k n), enc xs k n, R.nodes, [], 0, limit, 0⟩) (wr_mk (l0 := [.int .u64 client]) (y0 := client) (l1 := [.int .u64 seq]) (y1 := seq) (l2 := [.string key]) (y2 := key) (l3 := [.slice e ((headsOf (⟨R.version, 0, R.epoch⟩) xs.length k (enc xs k n)).length) f]) (y3 := headsOf (⟨R.version, 0, R.epoch⟩) xs.length k (enc xs k n)) (l4 := [.slice g (enc xs k n).length i]) (y4 := enc xs k n) (l5 := [.slice b R.nodes.length d]) (y5 := R.nodes) (l6 := [.slice none 0 0]) (y6 := []) (l7 := [.I 0]) (y7 := 0) (l8 := [.I limit]) (y8 := limit) (l9 := [.I 0]) (y9 := 0) u64a u64a ⟨rfl, hkey⟩ (H.rp 1 rfl) (H.rp 2 rfl) (H.rp 0 rfl) Shape.slice_nil (Shape.int_mk (by decide)) i64a (Shape.int_mk (by decide))) (by first | assumption | omega | (dsimp only; omega)) (by first | assumption | omega | (dsimp only; omega)) (by first | assumption | exact p)) ?_
    rintro _ _ s ⟨B, C, rfl, t⟩
    have H := H.addM s t
    refine uW 32 0 #[.int .u64 client, .int .u64 seq, .string key, .slice e ((headsOf (⟨R.version, 0, R.epoch⟩) xs.length k (enc xs k n)).length) f, .slice g (enc xs k n).length i, .slice b R.nodes.length d, .slice none 0 0, .I 0, .I limit, .I 0] H 1 rfl ?_
    intro _ H
    refine uF 2 ?_
    refine qRB (.tuple #[.agg #[.int .u64 client, .int .u64 seq, .string key, .slice e ((headsOf (⟨R.version, 0, R.epoch⟩) xs.length k (enc xs k n)).length) f, .slice g (enc xs k n).length i, .slice b R.nodes.length d, .slice none 0 0, .I 0, .I limit, .I 0], .slice B ((msgsOf (⟨client, seq, key, headsOf (⟨R.version, 0, R.epoch⟩) xs.length k (enc xs k n), enc xs k n, R.nodes, [], 0, limit, 0⟩)).length) C, .I 0]) Try.func18 (v3 (.cell 16 32) (.tmp 17) (.tmp 18) (vC (H.cells 1 rfl)) vT vT) ?_
    exact ⟨_, rfl, H.done, [.int .u64 client, .int .u64 seq, .string key, .slice e ((headsOf (⟨R.version, 0, R.epoch⟩) xs.length k (enc xs k n)).length) f, .slice g (enc xs k n).length i, .slice b R.nodes.length d, .slice none 0 0, .I 0, .I limit, .I 0], _, _, rfl, H.out (wr_mk (l0 := [.int .u64 client]) (y0 := client) (l1 := [.int .u64 seq]) (y1 := seq) (l2 := [.string key]) (y2 := key) (l3 := [.slice e ((headsOf (⟨R.version, 0, R.epoch⟩) xs.length k (enc xs k n)).length) f]) (y3 := headsOf (⟨R.version, 0, R.epoch⟩) xs.length k (enc xs k n)) (l4 := [.slice g (enc xs k n).length i]) (y4 := enc xs k n) (l5 := [.slice b R.nodes.length d]) (y5 := R.nodes) (l6 := [.slice none 0 0]) (y6 := []) (l7 := [.I 0]) (y7 := 0) (l8 := [.I limit]) (y8 := limit) (l9 := [.I 0]) (y9 := 0) u64a u64a ⟨rfl, hkey⟩ (H.rp 2 rfl) (H.rp 3 rfl) (H.rp 1 rfl) Shape.slice_nil (Shape.int_mk (by decide)) i64a (Shape.int_mk (by decide))), H.out (H.rp 0 rfl)⟩
end Go.Proofs.Ytppcdmbkgficiaa
