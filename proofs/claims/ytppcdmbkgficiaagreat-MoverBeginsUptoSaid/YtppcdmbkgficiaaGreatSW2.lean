import Derived.Test.YtppcdmbkgficiaaGreatSBxB
import Derived.Test.YtppcdmbkgficiaaGreatSG5
namespace Go.Proofs.YtppcdmbkgficiaaGreat
open Go.BX
def rightW (W : Wr) : Bool := decide (W.heads.length = W.chunks.length ∧ W.heads.length = W.nodes.length)
theorem right_spec {S : Nat → Prop} {w : World} {W : Wr} {cs : List Value} (hW : wrS.rep S w cs W) :
 Calls Tryz.prog 68 #[.agg cs.toArray] w (Ret fun v w' => Ext w w' ∧ v = .bool (rightW W)) := by
 obtain ⟨a, b, d, e, f, g, h, i, rfl, _, _, _, j, k, l, m, _, _, _⟩ := wr_open hW
 refine uS1 Tryz.func68 ?_
 have H := Hp.startF (.rp j (.rp k (.rp l (.rp m .nil))))
 refine uR 1 [.c [0], .c [1]] ?_
 refine qG (sq 0 2) ?_
 refine uC ((wrV W a b d e f g h i).toArray) 44 H ?_
 intro _ _ H
 refine uF 1 ?_
 refine uR 1 [.c [1, 0], .c [2]] ?_
 refine qG (sq 0 17) ?_
 refine uP 1 ?_
 refine uV 41 3 (H.cells 0 rfl) ?_
 refine uP 2 ?_
 refine uV 42 4 (H.cells 0 rfl) ?_
 refine uP 3 ?_
 refine uE 10 ((W.heads.length : Nat) : Int) ((W.chunks.length : Nat) : Int) (fun n => ?_) (fun n => ?_)
 ·
  refine uP 1 ?_
  refine uV 41 3 (H.cells 0 rfl) ?_
  refine uP 2 ?_
  refine uV 24 5 (H.cells 0 rfl) ?_
  refine uF 4 ?_
  refine qT (.bool (((W.heads.length : Nat) : Int) == ((W.nodes.length : Nat) : Int))) Tryz.func68 ?_
  refine ⟨_, rfl, H.done, ?_⟩
  congr 1
  unfold rightW
  rw [Bool.eq_iff_iff]
  simp
  omega
 ·
  refine uF 9 ?_
  refine qT (.bool false) Tryz.func68 ?_
  refine ⟨_, rfl, H.done, ?_⟩
  congr 1
  unfold rightW
  exact (decide_eq_false (by omega)).symm
theorem prep1_spec {S : Nat → Prop} {w : World} {W : Wr} {cs : List Value} (hW : wrS.rep S w cs W) {bw : Nat} (hF : (Fc bw 0 cs).p S w) (i : Int) :
 Calls Tryz.prog 117 #[.I i, .P bw 0] w (Ret fun v w' => Ext w w' ∧ v = .bool (!decide (i ∈ W.acks))) := by
 obtain ⟨d, e, f, g, h, j, a, b, rfl, _, _, _, _, _, _, k, _, _, _⟩ := wr_open hW
 refine uS1 Tryz.func117 ?_
 have H := Hp.startF (w := w) (S := S) (G := [Fc bw 0 (wrV W d e f g h j a b), Rp (Shape.slice (Shape.int .i64)) [.slice a W.acks.length b] W.acks]) (.cons hF (.rp k .nil))
 refine uR 3 [.c [1, 0], .c [2]] ?_
 refine qG (sq 0 6) ?_
 refine uP 1 ?_
 refine uV 24 6 (H.fc 0 rfl) ?_
 refine uP 1 ?_
 refine uK (contains_spec i (H.rp 1 rfl)) ?_
 rintro _ _ l rfl
 have H := H.ext l
 refine uF 2 ?_
 refine qT (.bool (!(decide (i ∈ W.acks)))) Tryz.func117 ?_
 exact ⟨_, rfl, H.done, rfl⟩
theorem prep2_spec {S : Nat → Prop} {w : World} {W : Wr} {cs : List Value} (hW : wrS.rep S w cs W) {bw : Nat} (hF : (Fc bw 0 cs).p S w) (i : Nat) (hi : i < W.chunks.length) (hby : (W.chunks[i]).length ≤ 140737488355328) :
 Calls Tryz.prog 118 #[.I i, .P bw 0] w (Ret fun v w' => Ext w w' ∧ ∃ (a : Option Addr) (c : Nat), v = .agg #[.I 9, .I 0, .I 0, .int .u64 0, .int .u64 0, .int .u64 0, .int .u64 0, .int .u64 0, .bool false, .bool false, .slice none 0 0, .slice none 0 0, .slice none 0 0, .int .u64 0, .I 0, .int .u64 0, .I 0, .I 0, .I 0, .int .u32 0, .slice a (W.chunks[i]).length c, .int .u64 0, .int .u64 0, .I 0, .string (⟨#[]⟩), .I 0, .slice none 0 0] ∧ Hp w S [] [] [⟨Sb, 5, .slice a (W.chunks[i]).length c, W.chunks[i]⟩] [] w') := by
 obtain ⟨h, j, e, f, k, l, m, n, rfl, _, _, _, _, o, _, _, _, _, _⟩ := wr_open hW
 refine uS1 Tryz.func118 ?_
 have H := Hp.startF (w := w) (S := S) (G := [Fc bw 0 (wrV W h j e f k l m n), Rp (Shape.slice SB) [.slice e W.chunks.length f] W.chunks]) (.cons hF (.rp o .nil))
 refine uR 1 [.c [0], .c [1]] ?_
 refine qG (sq 0 1) ?_
 refine uC ((msgZ).toArray) 89 H ?_
 intro r _ H
 refine uF 0 ?_
 refine uR 1 [.c [1, 0], .c [2]] ?_
 refine qG (sq 0 8) ?_
 refine uP 1 ?_
 refine uV 42 4 (H.fc 0 rfl) ?_
 refine uP 1 ?_
 have q : i < W.chunks.length := by omega
 refine uX 42 (i : Int) H 1 rfl i (by omega) (List.getElem?_eq_getElem q) ?_
 intro s t _ g H
 obtain ⟨u, x, rfl⟩ := Shape.slice_form' g
 have H := H.addR g
 refine uV 62 0 (H.fc 1 rfl) ?_
 refine uK (bclone_spec (H.rp 0 rfl) (by omega)) ?_
 rintro _ _ - H'
 have H := H.back (M1 := []) (W1 := []) H'
 obtain ⟨b, d, rfl, _, _⟩ := H.ownForm 0 rfl
 have H : Hp w S [] [(r, .cells (msgZ).toArray 89 (0, 0))] [⟨Sb, 5, .slice b (W.chunks[i]).length d, W.chunks[i]⟩] [_, Fc s t [.slice u (W.chunks[i]).length x], _, _] _ := H
 refine uP 1 ?_
 refine uW 89 0 (((msgZ).set 0 (.I 9)).set 20 (.slice b (W.chunks[i]).length d)).toArray H 0 rfl ?_
 intro _ H
 refine uF 0 ?_
 refine qRB (.agg (((msgZ).set 0 (.I 9)).set 20 (.slice b (W.chunks[i]).length d)).toArray) Tryz.func118 (v1 (.cell 3 89) (vC (H.cells 0 rfl))) ?_
 have H := H.drop (M' := []) (W' := [⟨Sb, 5, .slice b (W.chunks[i]).length d, W.chunks[i]⟩]) (List.nil_sublist _) (List.Sublist.refl _)
 exact ⟨_, rfl, H.done, _, _, rfl, H.pick [] rfl⟩
def prepOf (W : Wr) (i : Nat) : Msg := ⟨9, 0, W.nodes.getD i 0, 0, 0, 0, 0, 0, false, false, [], ⟨[], []⟩, W.heads.getD i ⟨⟨0, 0, 0⟩, 0, 0, 0, 0#32⟩, W.chunks.getD i [], 0, 0, 0, ⟨#[]⟩, 0, []⟩
def msgsTo (W : Wr) (n : Nat) : List Msg := (List.range n).filterMap fun (i : Nat) => if (i : Int) ∈ W.acks then none else some (prepOf W i)
def msgsOf (W : Wr) : List Msg := msgsTo W W.heads.length
theorem msgsTo_yes {W : Wr} {i : Nat} (h : ¬ (i : Int) ∈ W.acks) : msgsTo W i ++ [prepOf W i] = msgsTo W (i + 1) := by
 unfold msgsTo
 rw [List.range_succ, List.filterMap_append]
 simp [h]
theorem msgsTo_no {W : Wr} {i : Nat} (h : (i : Int) ∈ W.acks) : msgsTo W i = msgsTo W (i + 1) := by
 unfold msgsTo
 rw [List.range_succ, List.filterMap_append]
 simp [h]
theorem msgsTo_le (W : Wr) (i : Nat) : (msgsTo W i).length ≤ i := by
 have := List.length_filterMap_le (fun i : Nat => if (i : Int) ∈ W.acks then none else some (prepOf W i)) (List.range i)
 rwa [List.length_range] at this
theorem getD_at {α : Type} {l : List α} {i : Nat} (d : α) (h : i < l.length) : l.getD i d = l[i] := by
 simp [h]
set_option maxHeartbeats 4000000 in
theorem messages_prep {S : Nat → Prop} {w : World} {W : Wr} {cs : List Value} (hW : wrS.rep S w cs W) {bw : Nat} (hF : (Fc bw 0 cs).p S w) (hR : W.heads.length = W.chunks.length ∧ W.heads.length = W.nodes.length) (hn : W.heads.length ≤ 1000000) (hcb : ∀ c ∈ W.chunks, c.length ≤ 1000000) :
 Calls Tryz.prog 116 #[.agg cs.toArray, .func (.func 117) #[] #[.P bw 0], .func (.func 118) #[] #[.P bw 0]] w (Ret fun v w' => Ext w w' ∧ ∃ (a : Option Addr) (c : Nat), v = .slice a (msgsOf W).length c ∧ (Shape.slice msgS).rep (Nw S w) w' [.slice a (msgsOf W).length c] (msgsOf W)) := by
 obtain ⟨e, f, m, n, q, s, t, u, rfl, _, _, M, U, V, X, Y, _, _, _⟩ := wr_open hW
 refine uS1 Tryz.func116 ?_
 have H := Hp.startF (.rp U (.rp V (.rp X (.rp Y (.cons hF .nil)))))
 refine uR 1 [.c [0], .c [1]] ?_
 refine qG (sq 0 2) ?_
 refine uC ((wrV W e f m n q s t u).toArray) 44 H ?_
 intro x _ H
 refine uF 1 ?_
 refine uR 4 [.c [2, 0, 0], .c [2, 0, 1], .c [3]] ?_
 refine qG (sq 0 4) ?_
 refine uP 1 ?_
 refine uV 41 3 (H.cells 0 rfl) ?_
 refine uF 2 ?_
 refine uR 1 [.c [2, 0, 1, 0], .b 0, .c [3]] ?_
 have H := H.ownNil msgS 89
 refine uL (α := Nat × Option Addr × Nat) (g := 116) (p := [2, 0, 1, 0, 0]) (fun (i, ao, co) => [(1, .func (.func 117) #[] #[.P bw 0]), (2, .func (.func 118) #[] #[.P bw 0]), (3, .P x 0), (7, .slice ao (msgsTo W i).length co), (12, .slice e W.heads.length f), (13, .I ((W.heads.length : Nat) : Int)), (14, .I i)]) (fun (i, ao, co) w' => Hp w S [] [(x, .cells (wrV W e f m n q s t u).toArray 44 (0, 0))] [⟨msgS, 89, .slice ao (msgsTo W i).length co, msgsTo W i⟩] [Rp (Shape.slice hdrS) [.slice e W.heads.length f] W.heads, Rp (Shape.slice SB) [.slice m W.chunks.length n] W.chunks, Rp (Shape.slice (Shape.int .i64)) [.slice q W.nodes.length s] W.nodes, Rp (Shape.slice (Shape.int .i64)) [.slice t W.acks.length u] W.acks, Fc bw 0 (wrV W e f m n q s t u)] w' ∧ i ≤ W.heads.length) (fun (i, ao, co) => W.heads.length - i) (0, none, 0) ⟨H, Nat.zero_le _⟩ ?_
 rintro ⟨i, ao, co⟩ _ ⟨H, _⟩ z
 have hml := msgsTo_le W i
 refine uR 3 [.c [2, 0, 1, 0, 0, 1, 0], .c [2, 0, 1, 0, 0, 2], .l [2, 0, 1, 0, 0], .b 0, .c [3]] ?_
 refine qD (((i : Int) : Int) < ((W.heads.length : Nat) : Int)) (fun h5 => ?_) (fun h5 => ?_)
 ·
  refine uR 4 [.c [2, 0, 1, 0, 0, 2, 0, 0, 0], .c [2, 0, 1, 0, 0, 2, 0, 0, 1], .b 1, .c [2, 0, 1, 0, 0, 3], .l [2, 0, 1, 0, 0], .b 0, .c [3]] ?_
  refine qG (sq 0 6) ?_
  refine uP 1 ?_
  have Z : i < W.heads.length := by omega
  refine uX 41 (i : Int) H 0 rfl i (by omega) (List.getElem?_eq_getElem Z) ?_
  intro b7 o8 _ O H
  obtain ⟨_, rfl, Q, _, _, _⟩ := hdr_open O
  obtain ⟨rfl, _, _, _⟩ := cid_open Q
  refine uV 84 0 (H.fc 0 rfl) ?_
  refine uC #[.int .u64 0, .I 0, .int .u64 0, .I 0, .I 0, .I 0, .int .u32 0] 84 H ?_
  intro D _ H
  refine uP 1 ?_
  refine uW 84 0 (hdrV (W.heads[i])).toArray H 0 rfl ?_
  intro _ H
  refine uF 0 ?_
  refine uR 1 [.c [2, 0, 1, 0, 0, 2, 0, 0, 1, 0], .c [2, 0, 1, 0, 0, 2, 0, 0, 2], .b 1, .c [2, 0, 1, 0, 0, 3], .l [2, 0, 1, 0, 0], .b 0, .c [3]] ?_
  refine qG (sq 0 3) ?_
  refine uP 2 ?_
  refine uK (prep1_spec (W := W) (wr_mkV u64a u64a ⟨rfl, M⟩ (H.rp 1 rfl) (H.rp 2 rfl) (H.rp 3 rfl) (H.rp 4 rfl) i64a i64a i64a) (H.fact 5 rfl) (i : Int)) ?_
  rintro _ _ R rfl
  have H := H.ext R
  refine uF 0 ?_
  refine qC (!decide ((i : Int) ∈ W.acks)) (fun h => ?_) (fun h => ?_)
  ·
   replace h : (decide ((i : Int) ∈ W.acks)) = false := by revert h; cases (decide ((i : Int) ∈ W.acks)) <;> simp
   replace h := of_decide_eq_false h
   refine uR 1 [.c [2, 0, 1, 0, 0, 2, 0, 0, 2, 0, 0], .c [2, 0, 1, 0, 0, 2, 0, 0, 2, 0, 1], .b 1, .c [2, 0, 1, 0, 0, 3], .l [2, 0, 1, 0, 0], .b 0, .c [3]] ?_
   refine qG (sq 0 5) ?_
   refine uP 2 ?_
   refine uK (prep2_spec (W := W) (wr_mkV u64a u64a ⟨rfl, M⟩ (H.rp 1 rfl) (H.rp 2 rfl) (H.rp 3 rfl) (H.rp 4 rfl) i64a i64a i64a) (H.fact 5 rfl) i (by omega) (by have := hcb (W.chunks[i]) (List.getElem_mem _); omega)) ?_
   rintro _ _ - ⟨j, k, rfl, H'⟩
   have H := H.back (M1 := []) (W1 := []) H'
   have H : Hp w S [] [_, _] [⟨Sb, 5, .slice j (W.chunks[i]).length k, (W.chunks[i])⟩, _] [Fc b7 o8 (hdrV (W.heads[i])), _, _, _, _, _] _ := H
   refine uC ((msgZ).toArray) 89 H ?_
   intro A _ H
   refine uW 89 0 (((msgZ).set 0 (.I 9)).set 20 (.slice j (W.chunks[i]).length k)).toArray H 0 rfl ?_
   intro _ H
   refine qF 0 [(1, .func (.func 117) #[] #[.P bw 0]), (2, .func (.func 118) #[] #[.P bw 0]), (3, .P x 0), (7, .slice ao (msgsTo W i).length co), (8, .I i), (9, .P D 0), (10, .P A 0), (12, .slice e W.heads.length f), (13, .I ((W.heads.length : Nat) : Int)), (14, .I i)] ?_
   refine uR 1 [.c [2, 0, 1, 0, 0, 2, 0, 0, 2, 0, 1, 0], .c [2, 0, 1, 0, 0, 2, 0, 0, 2, 0, 2], .b 1, .c [2, 0, 1, 0, 0, 3], .l [2, 0, 1, 0, 0], .b 0, .c [3]] ?_
   refine WK.drawH1 [A] (.leaf [(0, .qui), (1, .qui), (2, .qui), (3, .qui), (4, .qui), (5, .qui), (6, .qui), (7, .seq), (8, .qui), (9, .seq)]) Try_mixed (by as_aux_lemma => kernel_rfl) (by as_aux_lemma => kernel_rfl) ?_
   intro a0 E
   have H := H.draw
   rw [← E] at H
   clear E
   have hS := Chg.refl a0 [A]
   refine RG.leaf' [(0, .qui), (1, .qui), (2, .qui), (3, .qui), (4, .qui), (5, .qui), (6, .qui), (7, .seq), (8, .qui), (9, .seq)] (by as_aux_lemma => kernel_rfl) ?_
   refine uHP hS 1 ?_
   refine uHV 24 5 hS (H.cells 2 rfl) (nq1 (H.raws 2 0 rfl rfl (by decide))) ?_
   refine uHP hS 1 ?_
   have T : i < W.nodes.length := by omega
   refine uHX 24 (i : Int) hS H 3 rfl i (by omega) (List.getElem?_eq_getElem T) ?_
   intro b0 c0 _ F H
   have e0 := Shape.i64_bd F
   obtain ⟨rfl, -⟩ := F
   refine uHV 3 0 hS (H.fc 0 rfl) (nq1 (H.fcne 0 rfl 0 rfl)) ?_
   refine uHV 84 0 hS (H.cells 1 rfl) (nq1 (H.raws 1 0 rfl rfl (by decide))) ?_
   refine uHP hS 1 ?_
   have Hr := H
   refine RH.sto ?_
   refine uWC 3 2 ((((msgZ).set 0 (.I 9)).set 2 (.I (W.nodes[i]))).set 20 (.slice j (W.chunks[i]).length k)).toArray H 0 rfl ?_
   intro _ K H
   have G := hS.sto K (.inr (by simp))
   refine ⟨G, ?_⟩
   have hS := G
   refine uHP hS 1 ?_
   refine RH.sto ?_
   refine uWC 84 13 #[.I 9, .I 0, .I (W.nodes[i]), .int .u64 0, .int .u64 0, .int .u64 0, .int .u64 0, .int .u64 0, .bool false, .bool false, .slice none 0 0, .slice none 0 0, .slice none 0 0, .int .u64 (((W.heads[i]).id).version), .I (((W.heads[i]).id).index), .int .u64 (((W.heads[i]).id).epoch), .I ((W.heads[i]).kk), .I ((W.heads[i]).nn), .I ((W.heads[i]).size), .int .u32 ((((W.heads[i]).sum).toNat : Nat) : Int), .slice j (W.chunks[i]).length k, .int .u64 0, .int .u64 0, .I 0, .string (⟨#[]⟩), .I 0, .slice none 0 0] H 0 rfl ?_
   intro _ L H
   have J := hS.sto L (.inr (by simp))
   refine ⟨J, ?_⟩
   have hS := J
   refine uHF hS 0 ?_
   refine qG (sq 0 5) ?_
   refine uP 1 ?_
   refine uV 89 0 (H.cells 0 rfl) ?_
   refine RW.new (κ := .seq) (d := some 35) (r := (sq 3 5)) (o := .cells #[.I 9, .I 0, .I (W.nodes[i]), .int .u64 0, .int .u64 0, .int .u64 0, .int .u64 0, .int .u64 0, .bool false, .bool false, .slice none 0 0, .slice none 0 0, .slice none 0 0, .int .u64 (((W.heads[i]).id).version), .I (((W.heads[i]).id).index), .int .u64 (((W.heads[i]).id).epoch), .I ((W.heads[i]).kk), .I ((W.heads[i]).nn), .I ((W.heads[i]).size), .int .u32 ((((W.heads[i]).sum).toNat : Nat) : Int), .slice j (W.chunks[i]).length k, .int .u64 0, .int .u64 0, .I 0, .string (⟨#[]⟩), .I 0, .slice none 0 0] 89 (0, 0)) (v := fun b => .slice (some ⟨b, 0, none⟩) 1 1) (fun b => by as_aux_lemma => kernel_rfl) (nofun) H ?_
   intro N _ H
   have H : Hp w S [] [(N, .cells #[.I 9, .I 0, .I (W.nodes[i]), .int .u64 0, .int .u64 0, .int .u64 0, .int .u64 0, .int .u64 0, .bool false, .bool false, .slice none 0 0, .slice none 0 0, .slice none 0 0, .int .u64 (((W.heads[i]).id).version), .I (((W.heads[i]).id).index), .int .u64 (((W.heads[i]).id).epoch), .I ((W.heads[i]).kk), .I ((W.heads[i]).nn), .I ((W.heads[i]).size), .int .u32 ((((W.heads[i]).sum).toNat : Nat) : Int), .slice j (W.chunks[i]).length k, .int .u64 0, .int .u64 0, .I 0, .string (⟨#[]⟩), .I 0, .slice none 0 0] 89 (0, 0)), _, _, _] [_] [Rp SB [.slice j (W.chunks[i]).length k] (W.chunks[i]), Fc b0 c0 [.I (W.nodes[i])], _, _, _, _, _, _] _ := H.freezeW 0 rfl
   have H := H.freeze 0 rfl msgS ([⟨9, 0, W.nodes[i], 0, 0, 0, 0, 0, false, false, [], ⟨[], []⟩, ⟨((W.heads[i]).id), (W.heads[i]).kk, (W.heads[i]).nn, (W.heads[i]).size, (W.heads[i]).sum⟩, (W.chunks[i]), 0, 0, 0, ⟨#[]⟩, 0, []⟩] : List Msg) 1 (by simp [maxLen]) (by first | exact Nat.le_refl _ | simp) (EsP.cons (c := [.I 9, .I 0, .I (W.nodes[i]), .int .u64 0, .int .u64 0, .int .u64 0, .int .u64 0, .int .u64 0, .bool false, .bool false, .slice none 0 0, .slice none 0 0, .slice none 0 0, .int .u64 (((W.heads[i]).id).version), .I (((W.heads[i]).id).index), .int .u64 (((W.heads[i]).id).epoch), .I ((W.heads[i]).kk), .I ((W.heads[i]).nn), .I ((W.heads[i]).size), .int .u32 ((((W.heads[i]).sum).toNat : Nat) : Int), .slice j (W.chunks[i]).length k, .int .u64 0, .int .u64 0, .I 0, .string (⟨#[]⟩), .I 0, .slice none 0 0]) (msg_mk (l0 := [.I 9]) (y0 := 9) (l1 := [.I 0]) (y1 := 0) (l2 := [.I (W.nodes[i])]) (y2 := W.nodes[i]) (l3 := [.int .u64 0]) (y3 := 0) (l4 := [.int .u64 0]) (y4 := 0) (l5 := [.int .u64 0]) (y5 := 0) (l6 := [.int .u64 0]) (y6 := 0) (l7 := [.int .u64 0]) (y7 := 0) (l8 := [.bool false]) (y8 := false) (l9 := [.bool false]) (y9 := false) (l10 := [.slice none 0 0]) (y10 := []) (l11 := [.slice none 0 0, .slice none 0 0]) (y11 := ⟨[], []⟩) (l12 := [.int .u64 (((W.heads[i]).id).version), .I (((W.heads[i]).id).index), .int .u64 (((W.heads[i]).id).epoch), .I ((W.heads[i]).kk), .I ((W.heads[i]).nn), .I ((W.heads[i]).size), .int .u32 ((((W.heads[i]).sum).toNat : Nat) : Int)]) (y12 := ⟨((W.heads[i]).id), (W.heads[i]).kk, (W.heads[i]).nn, (W.heads[i]).size, (W.heads[i]).sum⟩) (l13 := [.slice j (W.chunks[i]).length k]) (y13 := (W.chunks[i])) (l14 := [.int .u64 0]) (y14 := 0) (l15 := [.int .u64 0]) (y15 := 0) (l16 := [.I 0]) (y16 := 0) (l17 := [.string (⟨#[]⟩)]) (y17 := ⟨#[]⟩) (l18 := [.I 0]) (y18 := 0) (l19 := [.slice none 0 0]) (y19 := []) (Shape.int_mk (by decide)) (Shape.int_mk (by decide)) i64a (Shape.int_mk (by decide)) (Shape.int_mk (by decide)) (Shape.int_mk (by decide)) (Shape.int_mk (by decide)) (Shape.int_mk (by decide)) Shape.bool_mk Shape.bool_mk Shape.slice_nil (conf_mk Shape.slice_nil Shape.slice_nil) (hdr_mk (cid_mk u64a i64a u64a) i64a i64a i64a Shape.bv_mk) (H.rp 0 rfl) (Shape.int_mk (by decide)) (Shape.int_mk (by decide)) (Shape.int_mk (by decide)) ⟨rfl, by first | assumption | (simp [maxLen]; done) | decide⟩ (Shape.int_mk (by decide)) Shape.slice_nil) EsP.nil)
   have H : Hp w S [] [_, _, _] [_] [Rp (Shape.slice msgS) [.slice (some ⟨N, 0, none⟩) 1 1] ([⟨9, 0, W.nodes[i], 0, 0, 0, 0, 0, false, false, [], ⟨[], []⟩, ⟨((W.heads[i]).id), (W.heads[i]).kk, (W.heads[i]).nn, (W.heads[i]).size, (W.heads[i]).sum⟩, (W.chunks[i]), 0, 0, 0, ⟨#[]⟩, 0, []⟩] : List Msg), _, _, _, _, _, _, _, _] _ := H
   refine uA 31 31 296 (msgsTo W (i + 1)) H 0 rfl 0 rfl (by rw [← msgsTo_yes (by first | assumption | simp_all)]; unfold prepOf; rw [getD_at _ (by omega), getD_at _ (by omega), getD_at _ (by omega)]) (by have := msgsTo_le W (i + 1); omega) ?_
   intro B C _ H _
   have H : Hp w S [] [_, _, _] [⟨msgS, 89, .slice B ((msgsTo W (i + 1)).length) C, msgsTo W (i + 1)⟩] [_, _, _, _, _, _, _, _, _] _ := H
   refine uF 1 ?_
   refine uR 1 [.c [2, 0, 1, 0, 0, 3], .l [2, 0, 1, 0, 0], .b 0, .c [3]] ?_
   refine qG (sq 0 2) ?_
   refine uI ((i : Int) + 1) ?_
   refine qF 1 [(1, .func (.func 117) #[] #[.P bw 0]), (2, .func (.func 118) #[] #[.P bw 0]), (3, .P x 0), (7, .slice B ((msgsTo W (i + 1)).length) C), (12, .slice e W.heads.length f), (13, .I ((W.heads.length : Nat) : Int)), (14, .I ((i : Int) + 1))] ?_
   have H := H.pick [4, 5, 6, 7, 8] rfl
   have H := H.frontM 2 (M' := [(x, .cells (wrV W e f m n q s t u).toArray 44 (0, 0)), (A, .cells #[.I 9, .I 0, .I (W.nodes[i]), .int .u64 0, .int .u64 0, .int .u64 0, .int .u64 0, .int .u64 0, .bool false, .bool false, .slice none 0 0, .slice none 0 0, .slice none 0 0, .int .u64 (((W.heads[i]).id).version), .I (((W.heads[i]).id).index), .int .u64 (((W.heads[i]).id).epoch), .I ((W.heads[i]).kk), .I ((W.heads[i]).nn), .I ((W.heads[i]).size), .int .u32 ((((W.heads[i]).sum).toNat : Nat) : Int), .slice j (W.chunks[i]).length k, .int .u64 0, .int .u64 0, .I 0, .string (⟨#[]⟩), .I 0, .slice none 0 0] 89 (0, 0)), (D, .cells (hdrV (W.heads[i])).toArray 84 (0, 0))]) rfl
   have H := H.drop (M' := [(x, .cells (wrV W e f m n q s t u).toArray 44 (0, 0))]) (W' := [⟨msgS, 89, .slice B ((msgsTo W (i + 1)).length) C, msgsTo W (i + 1)⟩]) (by repeat (first | exact List.Sublist.refl _ | apply List.Sublist.cons_cons | apply List.Sublist.cons)) (by repeat (first | exact List.Sublist.refl _ | apply List.Sublist.cons_cons | apply List.Sublist.cons))
   exact WK.back (z (i + 1, B, C) _ ⟨H, by omega⟩ (by first | omega | (simp only []; omega))) (by first | rfl | (rw [msgsTo_no y]; rfl))
  ·
   replace h : (decide ((i : Int) ∈ W.acks)) = true := by revert h; cases (decide ((i : Int) ∈ W.acks)) <;> simp
   replace h := of_decide_eq_true h
   have y : (i : Int) ∈ W.acks := by first | (exact Decidable.byContradiction h) | (have hq := h; simpa using hq)
   refine uR 2 [.c [2, 0, 1, 0, 0, 3], .l [2, 0, 1, 0, 0], .b 0, .c [3]] ?_
   refine qG (sq 0 2) ?_
   refine uI ((i : Int) + 1) ?_
   refine qF 1 [(1, .func (.func 117) #[] #[.P bw 0]), (2, .func (.func 118) #[] #[.P bw 0]), (3, .P x 0), (7, .slice ao (msgsTo W i).length co), (12, .slice e W.heads.length f), (13, .I ((W.heads.length : Nat) : Int)), (14, .I ((i : Int) + 1))] ?_
   have H := H.reW (msgsTo_no y) (by rw [msgsTo_no y])
   have H := H.pick [1, 2, 3, 4, 5] rfl
   have H := H.frontM 1 (M' := [(x, .cells (wrV W e f m n q s t u).toArray 44 (0, 0)), (D, .cells (hdrV (W.heads[i])).toArray 84 (0, 0))]) rfl
   have H := H.drop (M' := [(x, .cells (wrV W e f m n q s t u).toArray 44 (0, 0))]) (W' := [⟨msgS, 89, .slice ao ((msgsTo W (i + 1)).length) co, msgsTo W (i + 1)⟩]) (by repeat (first | exact List.Sublist.refl _ | apply List.Sublist.cons_cons | apply List.Sublist.cons)) (by repeat (first | exact List.Sublist.refl _ | apply List.Sublist.cons_cons | apply List.Sublist.cons))
   exact WK.back (z (i + 1, ao, co) _ ⟨H, by omega⟩ (by first | omega | (simp only []; omega))) (by first | rfl | (rw [msgsTo_no y]; rfl))
 ·
  refine uR 3 [.c [4]] ?_
  refine qT (.slice ao (msgsTo W i).length co) Tryz.func116 ?_
  have H : Hp w S [] [_] [] [Rp (Shape.slice msgS) [.slice ao (msgsTo W i).length co] (msgsTo W i), _, _, _, _, _] _ := H.freezeW 0 rfl
  have d0 : i = W.heads.length := by omega
  subst d0
  exact ⟨_, rfl, H.done, _, _, rfl, H.out (H.rp 0 rfl)⟩
end Go.Proofs.YtppcdmbkgficiaaGreat
