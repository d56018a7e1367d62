import Derived.Test.YtppcdmbkgficiaaGreatSBxB
import Derived.Test.YtppcdmbkgficiaaGreatSW2
import Derived.Test.YtppcdmbkgficiaaGreatSBxA
namespace Go.Proofs.YtppcdmbkgficiaaGreat
open Go.BX
theorem prepares_spec {S : Nat → Prop} {w : World} {W : Wr} {cs : List Value} (hW : wrS.rep S w cs W) (hR : W.heads.length = W.chunks.length ∧ W.heads.length = W.nodes.length) (hn : W.heads.length ≤ 1000000) (hcb : ∀ c ∈ W.chunks, c.length ≤ 1000000) :
 Calls Tryz.prog 93 #[.agg cs.toArray] w (Ret fun v w' => Ext w w' ∧ ∃ (a : Option Addr) (c : Nat), v = .slice a (msgsOf W).length c ∧ (Shape.slice msgS).rep (Nw S w) w' [.slice a (msgsOf W).length c] (msgsOf W)) := by
 obtain ⟨b, d, e, f, g, h, i, j, rfl, _, _, k, l, m, n, o, _, _, _⟩ := wr_open hW
 refine uS1 Tryz.func93 ?_
 have H := Hp.startF (.rp l (.rp m (.rp n (.rp o .nil))))
 refine uR 1 [.c [0], .c [1]] ?_
 refine qG (sq 0 2) ?_
 refine uC ((wrV W b d e f g h i j).toArray) 44 H ?_
 intro r _ H
 refine uF 1 ?_
 refine uR 1 [.c [1, 0], .c [2]] ?_
 refine qG (sq 0 5) ?_
 refine uV 44 0 (H.cells 0 rfl) ?_
 refine uP 2 ?_
 have H := H.freezeM
 have H : Hp w S [] [] [] [Fc r 0 (wrV W b d e f g h i j), _, _, _, _] _ := H
 refine uK (messages_prep (W := W) (wr_mkV u64a u64a ⟨rfl, k⟩ (H.rp 1 rfl) (H.rp 2 rfl) (H.rp 3 rfl) (H.rp 4 rfl) i64a i64a i64a) (H.fact 0 rfl) (by first | assumption | omega) (by omega) (by assumption)) ?_
 rintro _ _ p ⟨s, t, rfl, q⟩
 have H := H.addM p q
 refine uF 1 ?_
 refine qT (.slice s (msgsOf W).length t) Tryz.func93 ?_
 exact ⟨_, rfl, H.done, _, _, rfl, H.out (H.rp 0 rfl)⟩
theorem hdr_all {a b : Hdr} : ([((a.id.version : Int) == b.id.version), ((a.id.index : Int) == b.id.index), ((a.id.epoch : Int) == b.id.epoch), ((a.kk : Int) == b.kk), ((a.nn : Int) == b.nn), ((a.size : Int) == b.size), (((a.sum.toNat : Nat) : Int) == ((b.sum.toNat : Nat) : Int))].all id) = true ↔ a = b := by
 obtain ⟨⟨_, _, _⟩, _, _, _, c⟩ := a
 obtain ⟨⟨_, _, _⟩, _, _, _, d⟩ := b
 have e : ((c.toNat : Nat) : Int) = ((d.toNat : Nat) : Int) ↔ c = d := ⟨fun h => BitVec.eq_of_toNat_eq (by omega), fun h => by rw [h]⟩
 simp [e, and_assoc]
theorem hdr_no {a b : Hdr} (h : ([((a.id.version : Int) == b.id.version), ((a.id.index : Int) == b.id.index), ((a.id.epoch : Int) == b.id.epoch), ((a.kk : Int) == b.kk), ((a.nn : Int) == b.nn), ((a.size : Int) == b.size), (((a.sum.toNat : Nat) : Int) == ((b.sum.toNat : Nat) : Int))].all id) = false) : a ≠ b := fun e => by
 rw [hdr_all.2 e] at h; cases h
def hitW (W : Wr) (frm : Int) (hd : Hdr) (i : Nat) : Bool := decide (W.heads[i]? = some hd) && decide (W.nodes[i]? = some frm)
def acksOf (W : Wr) (i n : Nat) : List Int := ((List.range n).map fun k : Nat => (k : Int)).filter fun k => decide (k = (i : Int)) || decide (k ∈ W.acks)
theorem acksOf_yes {W : Wr} {i k : Nat} (h : (k : Int) = (i : Int) ∨ (k : Int) ∈ W.acks) : acksOf W i k ++ [(k : Int)] = acksOf W i (k + 1) := by
 unfold acksOf
 rw [List.range_succ, List.map_append, List.filter_append]
 have e : (decide ((k : Int) = (i : Int)) || decide ((k : Int) ∈ W.acks)) = true := by simpa using h
 simp [List.filter_cons, e]
theorem acksOf_no {W : Wr} {i k : Nat} (h1 : ¬ (k : Int) = (i : Int)) (h2 : ¬ (k : Int) ∈ W.acks) : acksOf W i k = acksOf W i (k + 1) := by
 unfold acksOf
 rw [List.range_succ, List.map_append, List.filter_append]
 have e : (decide ((k : Int) = (i : Int)) || decide ((k : Int) ∈ W.acks)) = false := by simp [h1, h2]
 simp [List.filter_cons, e]
theorem acksOf_le (W : Wr) (i n : Nat) : (acksOf W i n).length ≤ n := by
 have := List.length_filter_le (fun k => decide (k = (i : Int)) || decide (k ∈ W.acks)) ((List.range n).map fun k : Nat => (k : Int))
 simpa [acksOf] using this
def gotOf (W : Wr) (kind frm : Int) (hd : Hdr) (ok : Bool) : Wr × Int :=
 if rightW W = false ∨ W.done ≠ 0 ∨ kind ≠ 10 then (W, W.done) else
 match (List.range W.heads.length).find? (hitW W frm hd) with
 | none => (W, W.done)
 | some i => if ok = false then ({ W with done := 2 }, 2) else
  if (acksOf W i W.heads.length).length = W.heads.length then ({ W with acks := acksOf W i W.heads.length, done := 1 }, 1) else ({ W with acks := acksOf W i W.heads.length }, W.done)
theorem find_hit {W : Wr} {frm : Int} {hd : Hdr} {i : Nat} (hi : i < W.heads.length) (h : hitW W frm hd i = true) (hn : ∀ j < i, hitW W frm hd j = false) : (List.range W.heads.length).find? (hitW W frm hd) = some i := by
 rw [List.find?_eq_some_iff_append]
 refine ⟨h, List.range i, (List.range (W.heads.length - i - 1)).map (· + (i + 1)), ?_, fun j hj => by simp [hn j (List.mem_range.1 hj)]⟩
 have e : W.heads.length = i + (1 + (W.heads.length - i - 1)) := by omega
 conv => lhs; rw [e, List.range_add, List.range_add]
 simp [Function.comp_def, Nat.add_comm, Nat.add_left_comm]
theorem find_none {W : Wr} {frm : Int} {hd : Hdr} (hn : ∀ j < W.heads.length, hitW W frm hd j = false) : (List.range W.heads.length).find? (hitW W frm hd) = none := by
 rw [List.find?_eq_none]
 intro j hj
 simp [hn j (List.mem_range.1 hj)]
theorem hit_at {W : Wr} {frm : Int} {hd : Hdr} {i : Nat} (h1 : i < W.heads.length) (h2 : i < W.nodes.length) (e1 : W.heads[i] = hd) (e2 : W.nodes[i] = frm) : hitW W frm hd i = true := by
 simp [hitW, h1, h2, e1, e2]
theorem miss_h {W : Wr} {frm : Int} {hd : Hdr} {i : Nat} (h1 : i < W.heads.length) (e1 : W.heads[i] ≠ hd) : hitW W frm hd i = false := by
 simp [hitW, h1, e1]
theorem miss_n {W : Wr} {frm : Int} {hd : Hdr} {i : Nat} (h2 : i < W.nodes.length) (e2 : W.nodes[i] ≠ frm) : hitW W frm hd i = false := by
 simp [hitW, h2, e2]
theorem lt_succ_cases {p : Nat → Prop} {i : Nat} (h : ∀ j < i, p j) (hi : p i) : ∀ j < i + 1, p j := fun j hj => by
 rcases Nat.lt_or_eq_of_le (Nat.le_of_lt_succ hj) with h1 | h1
 · exact h j h1
 · rw [h1]; exact hi
set_option maxHeartbeats 4000000 in
theorem got_spec {S : Nat → Prop} {w : World} {W : Wr} {cs : List Value} (hW : wrS.rep S w cs W) (kind frm : Int) (hd : Hdr) (ok : Bool) (x2 x3 x4 x5 x6 x7 x9 x10 x11 x12 x20 x21 x22 x23 x24 x25 x26 : Value) (hn : W.heads.length ≤ 1000000) :
 Calls Tryz.prog 53 #[.agg cs.toArray, .agg #[.I kind, .I frm, x2, x3, x4, x5, x6, x7, .bool ok, x9, x10, x11, x12, .int .u64 hd.id.version, .I hd.id.index, .int .u64 hd.id.epoch, .I hd.kk, .I hd.nn, .I hd.size, .int .u32 ((hd.sum.toNat : Nat) : Int), x20, x21, x22, x23, x24, x25, x26]] w (Ret fun v w' => Ext w w' ∧ ∃ (ds : List Value) (D : Wr) (e : Int), v = .tuple #[.agg ds.toArray, .I e] ∧ wrS.rep (Nw S w) w' ds D ∧ (D, e) = gotOf W kind frm hd ok) := by
 obtain ⟨a, f, m, n, s, t, u, x, rfl, _, _, M, G0, H0, I0, J0, _, _, _⟩ := wr_open hW
 refine uS1 Tryz.func53 ?_
 have H := Hp.startF (.rp G0 (.rp H0 (.rp I0 (.rp J0 .nil))))
 refine uR 1 [.c [0], .c [1]] ?_
 refine qG (sq 0 4) ?_
 refine uC ((wrV W a f m n s t u x).toArray) 44 H ?_
 intro z _ H
 refine uC #[.I kind, .I frm, x2, x3, x4, x5, x6, x7, .bool ok, x9, x10, x11, x12, .int .u64 hd.id.version, .I hd.id.index, .int .u64 hd.id.epoch, .I hd.kk, .I hd.nn, .I hd.size, .int .u32 ((hd.sum.toNat : Nat) : Int), x20, x21, x22, x23, x24, x25, x26] 89 H ?_
 intro B _ H
 refine uC ((wrZ).toArray) 44 H ?_
 intro y _ H
 refine uF 1 ?_
 refine uR 2 [.c [1, 0, 0], .c [1, 0, 1], .c [2]] ?_
 refine WK.joinV (α := Bool) (fun x_ w_ => match x_ with | gb => Hp w S [] [(y, .cells (wrZ).toArray 44 (0, 0)), (B, .cells #[.I kind, .I frm, x2, x3, x4, x5, x6, x7, .bool ok, x9, x10, x11, x12, .int .u64 hd.id.version, .I hd.id.index, .int .u64 hd.id.epoch, .I hd.kk, .I hd.nn, .I hd.size, .int .u32 ((hd.sum.toNat : Nat) : Int), x20, x21, x22, x23, x24, x25, x26] 89 (0, 0)), (z, .cells (wrV W a f m n s t u x).toArray 44 (0, 0))] [] [Rp (Shape.slice hdrS) [.slice a W.heads.length f] W.heads, Rp (Shape.slice SB) [.slice m W.chunks.length n] W.chunks, Rp (Shape.slice (Shape.int .i64)) [.slice s W.nodes.length t] W.nodes, Rp (Shape.slice (Shape.int .i64)) [.slice u W.acks.length x] W.acks] w_ ∧ gb = decide (rightW W = false ∨ W.done ≠ 0 ∨ kind ≠ 10)) (fun x_ => match x_ with | gb => [(2, .P z 0), (3, .P B 0), (4, .P y 0), (22, .bool gb)]) [Cq Tryz.prog 53 [1, 0, 1], Cq Tryz.prog 53 [2]] (fun U => ?_) ?_
 ·
  refine qG (sq 0 13) ?_
  refine uV 44 0 (H.cells 2 rfl) ?_
  refine uK (right_spec (W := W) (wr_mkV u64a u64a ⟨rfl, M⟩ (H.rp 0 rfl) (H.rp 1 rfl) (H.rp 2 rfl) (H.rp 3 rfl) i64a i64a i64a)) ?_
  rintro _ _ v0 rfl
  have H := H.ext v0
  refine uP 2 ?_
  refine uT 13 (!(rightW W)) (fun G => ?_) (fun G => ?_)
  ·
   replace G : (rightW W) = false := by revert G; cases (rightW W) <;> simp
   have w0 : rightW W = false := by first | assumption | (simpa using G)
   refine uF 9 ?_
   exact uB (U (true) _ ⟨H, (decide_eq_true (.inl w0)).symm⟩)
  ·
   replace G : (rightW W) = true := by revert G; cases (rightW W) <;> simp
   have R : rightW W = true := by first | assumption | (simpa using G)
   refine uP 1 ?_
   refine uV 28 9 (H.cells 2 rfl) ?_
   refine uP 3 ?_
   refine uN 18 W.done 0 (fun V => ?_) (fun V => ?_)
   ·
    have x0 := V
    refine uF 4 ?_
    exact uB (U (true) _ ⟨H, (decide_eq_true (.inr (.inl x0))).symm⟩)
   ·
    have z0 := V
    refine uP 1 ?_
    refine uV 77 0 (H.cells 1 rfl) ?_
    refine uF 2 ?_
    exact uB (U (kind != 10) _ ⟨H, by rw [Bool.eq_iff_iff, decide_eq_true_iff, bne_iff_ne]; exact ⟨fun h => .inr (.inr h), fun h => h.elim (fun q => absurd (R.symm.trans q) (by decide)) (fun q => q.elim (fun q => absurd z0 q) id)⟩⟩)
 ·
  rintro gb _ ⟨H, hgb⟩
  refine qC gb (fun E => ?_) (fun E => ?_)
  ·
   rw [hgb] at E
   replace E := of_decide_eq_true E
   have C := E
   refine uR 1 [.c [1, 0, 1, 0, 0], .c [1, 0, 1, 0, 1], .c [2]] ?_
   refine WK.drawH1 [y] (.leaf [(0, .qui), (1, .qui), (2, .qui), (3, .seq), (4, .qui)]) Try_mixed (by as_aux_lemma => kernel_rfl) (by as_aux_lemma => kernel_rfl) ?_
   intro K0 X
   have H := H.draw
   rw [← X] at H
   clear X
   have hS := Chg.refl K0 [y]
   refine RG.leaf' [(0, .qui), (1, .qui), (2, .qui), (3, .seq), (4, .qui)] (by as_aux_lemma => kernel_rfl) ?_
   refine uHV 44 0 hS (H.cells 2 rfl) (nq1 (H.raws 2 0 rfl rfl (by decide))) ?_
   refine uHP hS 1 ?_
   refine uHV 28 9 hS (H.cells 2 rfl) (nq1 (H.raws 2 0 rfl rfl (by decide))) ?_
   have Hr := H
   refine RH.sto ?_
   refine uWC 44 0 (wrV W a f m n s t u x).toArray H 0 rfl ?_
   intro _ p0 H
   have Y := hS.sto p0 (.inr (by simp))
   refine ⟨Y, ?_⟩
   have hS := Y
   refine uHF hS 1 ?_
   refine qRB (.tuple #[.agg (wrV W a f m n s t u x).toArray, .I W.done]) Tryz.func53 (v2 (.cell 4 44) (.tmp 5) (vC (H.cells 0 rfl)) vT) ?_
   have hpost : (W, (W.done : Int)) = gotOf W kind frm hd ok := by
    clear H
    symm
    unfold gotOf; rw [if_pos C]
   exact ⟨_, rfl, H.done, [.int .u64 W.client, .int .u64 W.seq, .string W.key, .slice a W.heads.length f, .slice m W.chunks.length n, .slice s W.nodes.length t, .slice u W.acks.length x, .I W.waited, .I W.limit, .I W.done], W, W.done, rfl, H.out (wr_mkV u64a u64a ⟨rfl, M⟩ (H.rp 0 rfl) (H.rp 1 rfl) (H.rp 2 rfl) (H.rp 3 rfl) i64a i64a i64a), hpost⟩
  ·
   rw [hgb] at E
   replace E := of_decide_eq_false E
   have C := E
   have R : rightW W = true := by
    cases hq : rightW W
    · exact absurd (.inl hq) C
    · rfl
   have a1 := of_decide_eq_true (p := W.heads.length = W.chunks.length ∧ W.heads.length = W.nodes.length) R
   refine qR 3 [.c [2, 0, 0], .c [2, 0, 1], .c [3]] [(2, .P z 0), (3, .P B 0), (4, .P y 0)] ?_
   refine qG (sq 0 4) ?_
   refine uP 1 ?_
   refine uV 41 3 (H.cells 2 rfl) ?_
   refine uF 2 ?_
   refine uR 1 [.c [2, 0, 1, 0], .b 0, .c [3]] ?_
   refine uL (α := Nat) (g := 53) (p := [2, 0, 1, 0, 0]) (fun i => [(2, .P z 0), (3, .P B 0), (4, .P y 0), (27, .slice a W.heads.length f), (28, .I ((W.heads.length : Nat) : Int)), (29, .I i)]) (fun i w' => Hp w S [] [(y, .cells (wrZ).toArray 44 (0, 0)), (B, .cells #[.I kind, .I frm, x2, x3, x4, x5, x6, x7, .bool ok, x9, x10, x11, x12, .int .u64 hd.id.version, .I hd.id.index, .int .u64 hd.id.epoch, .I hd.kk, .I hd.nn, .I hd.size, .int .u32 ((hd.sum.toNat : Nat) : Int), x20, x21, x22, x23, x24, x25, x26] 89 (0, 0)), (z, .cells (wrV W a f m n s t u x).toArray 44 (0, 0))] [] [Rp (Shape.slice hdrS) [.slice a W.heads.length f] W.heads, Rp (Shape.slice SB) [.slice m W.chunks.length n] W.chunks, Rp (Shape.slice (Shape.int .i64)) [.slice s W.nodes.length t] W.nodes, Rp (Shape.slice (Shape.int .i64)) [.slice u W.acks.length x] W.acks] w' ∧ i ≤ W.heads.length ∧ ∀ j < i, hitW W frm hd j = false) (fun i => W.heads.length - i) 0 ⟨H, Nat.zero_le _, fun j hj => absurd hj (Nat.not_lt_zero j)⟩ ?_
   rintro i _ ⟨H, A⟩ N
   refine uR 3 [.c [2, 0, 1, 0, 0, 1, 0], .c [2, 0, 1, 0, 0, 2], .l [2, 0, 1, 0, 0], .b 0, .c [3]] ?_
   refine qD (((i : Int) : Int) < ((W.heads.length : Nat) : Int)) (fun L0 => ?_) (fun L0 => ?_)
   ·
    refine uR 4 [.c [2, 0, 1, 0, 0, 2, 0, 0, 0], .c [2, 0, 1, 0, 0, 2, 0, 0, 1], .b 1, .c [2, 0, 1, 0, 0, 3], .l [2, 0, 1, 0, 0], .b 0, .c [3]] ?_
    refine qG (sq 0 6) ?_
    refine uP 1 ?_
    have A0 : i < W.heads.length := by omega
    refine uX 41 (i : Int) H 0 rfl i (by omega) (List.getElem?_eq_getElem A0) ?_
    intro M0 N0 _ B0 H
    obtain ⟨_, rfl, C0, _, _, _⟩ := hdr_open B0
    obtain ⟨rfl, _, _, _⟩ := cid_open C0
    refine uV 84 0 (H.fc 0 rfl) ?_
    refine uC #[.int .u64 0, .I 0, .int .u64 0, .I 0, .I 0, .I 0, .int .u32 0] 84 H ?_
    intro J _ H
    refine uP 1 ?_
    refine uW 84 0 (hdrV (W.heads[i])).toArray H 0 rfl ?_
    intro u0 H
    refine uF 0 ?_
    refine uR 2 [.c [2, 0, 1, 0, 0, 2, 0, 0, 1, 0, 0], .c [2, 0, 1, 0, 0, 2, 0, 0, 1, 0, 1], .c [2, 0, 1, 0, 0, 2, 0, 0, 2], .b 1, .c [2, 0, 1, 0, 0, 3], .l [2, 0, 1, 0, 0], .b 0, .c [3]] ?_
    refine WK.draw1 14 (qs [0, 1, 2, 3, 4, 5, 6, 7, 8, 9, 10, 11, 12, 13]) (qs [0, 1, 2, 3, 4, 5, 6, 7, 8, 9, 10, 11, 12, 13]) Try_mixed (by as_aux_lemma => kernel_rfl) (by as_aux_lemma => kernel_rfl) (by as_aux_lemma => kernel_rfl) ?_
    have H := H.draw
    generalize ({ u0 with drawn := u0.drawn + 1 } : World) = c1 at H ⊢
    refine uV 84 0 (H.cells 0 rfl) ?_
    refine uP 1 ?_
    refine uV 84 13 (H.cells 2 rfl) ?_
    refine RW.neA (κ := .qui) (d := some 37) (r := (qs [4, 5, 6, 7, 8, 9, 10, 11, 12, 13])) (T := 84) (xs := #[.int .u64 (((W.heads[i]).id).version), .I (((W.heads[i]).id).index), .int .u64 (((W.heads[i]).id).epoch), .I ((W.heads[i]).kk), .I ((W.heads[i]).nn), .I ((W.heads[i]).size), .int .u32 ((((W.heads[i]).sum).toNat : Nat) : Int)]) (ys := #[.int .u64 hd.id.version, .I hd.id.index, .int .u64 hd.id.epoch, .I hd.kk, .I hd.nn, .I hd.size, .int .u32 ((hd.sum.toNat : Nat) : Int)]) (ox := (.tmp 34)) (oy := (.tmp 36)) [((((W.heads[i]).id).version : Int) == hd.id.version), ((((W.heads[i]).id).index : Int) == hd.id.index), ((((W.heads[i]).id).epoch : Int) == hd.id.epoch), (((W.heads[i]).kk : Int) == hd.kk), (((W.heads[i]).nn : Int) == hd.nn), (((W.heads[i]).size : Int) == hd.size), ((((((W.heads[i]).sum).toNat : Nat) : Int) : Int) == ((hd.sum.toNat : Nat) : Int))] (by as_aux_lemma => kernel_rfl) (by as_aux_lemma => kernel_rfl) (by as_aux_lemma => kernel_rfl) ?_
    refine uP 1 ?_
    refine uT 38 (!([((((W.heads[i]).id).version : Int) == hd.id.version), ((((W.heads[i]).id).index : Int) == hd.id.index), ((((W.heads[i]).id).epoch : Int) == hd.id.epoch), (((W.heads[i]).kk : Int) == hd.kk), (((W.heads[i]).nn : Int) == hd.nn), (((W.heads[i]).size : Int) == hd.size), ((((((W.heads[i]).sum).toNat : Nat) : Int) : Int) == ((hd.sum.toNat : Nat) : Int))].all id)) (fun K => ?_) (fun K => ?_)
    ·
     replace K : (([((((W.heads[i]).id).version : Int) == hd.id.version), ((((W.heads[i]).id).index : Int) == hd.id.index), ((((W.heads[i]).id).epoch : Int) == hd.id.epoch), (((W.heads[i]).kk : Int) == hd.kk), (((W.heads[i]).nn : Int) == hd.nn), (((W.heads[i]).size : Int) == hd.size), ((((((W.heads[i]).sum).toNat : Nat) : Int) : Int) == ((hd.sum.toNat : Nat) : Int))].all id)) = false := by revert K; cases (([((((W.heads[i]).id).version : Int) == hd.id.version), ((((W.heads[i]).id).index : Int) == hd.id.index), ((((W.heads[i]).id).epoch : Int) == hd.id.epoch), (((W.heads[i]).kk : Int) == hd.kk), (((W.heads[i]).nn : Int) == hd.nn), (((W.heads[i]).size : Int) == hd.size), ((((((W.heads[i]).sum).toNat : Nat) : Int) : Int) == ((hd.sum.toNat : Nat) : Int))].all id)) <;> simp
     have Z : W.heads[i] ≠ hd := hdr_no K
     have L : hitW W frm hd i = false := miss_h (by omega) Z
     refine uF 9 ?_
     refine uR 2 [.c [2, 0, 1, 0, 0, 3], .l [2, 0, 1, 0, 0], .b 0, .c [3]] ?_
     refine qG (sq 0 2) ?_
     refine uI ((i : Int) + 1) ?_
     refine qF 1 [(2, .P z 0), (3, .P B 0), (4, .P y 0), (27, .slice a W.heads.length f), (28, .I ((W.heads.length : Nat) : Int)), (29, .I ((i : Int) + 1))] ?_
     have H := H.pick [1, 2, 3, 4] rfl
     have H := H.frontM 3 (M' := [(z, .cells (wrV W a f m n s t u x).toArray 44 (0, 0)), (J, .cells (hdrV (W.heads[i])).toArray 84 (0, 0)), (y, .cells (wrZ).toArray 44 (0, 0)), (B, .cells #[.I kind, .I frm, x2, x3, x4, x5, x6, x7, .bool ok, x9, x10, x11, x12, .int .u64 hd.id.version, .I hd.id.index, .int .u64 hd.id.epoch, .I hd.kk, .I hd.nn, .I hd.size, .int .u32 ((hd.sum.toNat : Nat) : Int), x20, x21, x22, x23, x24, x25, x26] 89 (0, 0))]) rfl
     have H := H.frontM 3 (M' := [(B, .cells #[.I kind, .I frm, x2, x3, x4, x5, x6, x7, .bool ok, x9, x10, x11, x12, .int .u64 hd.id.version, .I hd.id.index, .int .u64 hd.id.epoch, .I hd.kk, .I hd.nn, .I hd.size, .int .u32 ((hd.sum.toNat : Nat) : Int), x20, x21, x22, x23, x24, x25, x26] 89 (0, 0)), (z, .cells (wrV W a f m n s t u x).toArray 44 (0, 0)), (J, .cells (hdrV (W.heads[i])).toArray 84 (0, 0)), (y, .cells (wrZ).toArray 44 (0, 0))]) rfl
     have H := H.frontM 3 (M' := [(y, .cells (wrZ).toArray 44 (0, 0)), (B, .cells #[.I kind, .I frm, x2, x3, x4, x5, x6, x7, .bool ok, x9, x10, x11, x12, .int .u64 hd.id.version, .I hd.id.index, .int .u64 hd.id.epoch, .I hd.kk, .I hd.nn, .I hd.size, .int .u32 ((hd.sum.toNat : Nat) : Int), x20, x21, x22, x23, x24, x25, x26] 89 (0, 0)), (z, .cells (wrV W a f m n s t u x).toArray 44 (0, 0)), (J, .cells (hdrV (W.heads[i])).toArray 84 (0, 0))]) rfl
     have H := H.drop (M' := [(y, .cells (wrZ).toArray 44 (0, 0)), (B, .cells #[.I kind, .I frm, x2, x3, x4, x5, x6, x7, .bool ok, x9, x10, x11, x12, .int .u64 hd.id.version, .I hd.id.index, .int .u64 hd.id.epoch, .I hd.kk, .I hd.nn, .I hd.size, .int .u32 ((hd.sum.toNat : Nat) : Int), x20, x21, x22, x23, x24, x25, x26] 89 (0, 0)), (z, .cells (wrV W a f m n s t u x).toArray 44 (0, 0))]) (W' := []) (by repeat (first | exact List.Sublist.refl _ | apply List.Sublist.cons_cons | apply List.Sublist.cons)) (by repeat (first | exact List.Sublist.refl _ | apply List.Sublist.cons_cons | apply List.Sublist.cons))
     exact uB (N (i + 1) _ ⟨H, by omega, lt_succ_cases A.2 L⟩ (by first | omega | (simp only []; omega)))
    ·
     replace K : (([((((W.heads[i]).id).version : Int) == hd.id.version), ((((W.heads[i]).id).index : Int) == hd.id.index), ((((W.heads[i]).id).epoch : Int) == hd.id.epoch), (((W.heads[i]).kk : Int) == hd.kk), (((W.heads[i]).nn : Int) == hd.nn), (((W.heads[i]).size : Int) == hd.size), ((((((W.heads[i]).sum).toNat : Nat) : Int) : Int) == ((hd.sum.toNat : Nat) : Int))].all id)) = true := by revert K; cases (([((((W.heads[i]).id).version : Int) == hd.id.version), ((((W.heads[i]).id).index : Int) == hd.id.index), ((((W.heads[i]).id).epoch : Int) == hd.id.epoch), (((W.heads[i]).kk : Int) == hd.kk), (((W.heads[i]).nn : Int) == hd.nn), (((W.heads[i]).size : Int) == hd.size), ((((((W.heads[i]).sum).toNat : Nat) : Int) : Int) == ((hd.sum.toNat : Nat) : Int))].all id)) <;> simp
     have D0 : W.heads[i] = hd := hdr_all.1 K
     refine uP 1 ?_
     refine uV 24 5 (H.cells 3 rfl) ?_
     refine uP 1 ?_
     have E0 : i < W.nodes.length := by omega
     refine uX 24 (i : Int) H 3 rfl i (by omega) (List.getElem?_eq_getElem E0) ?_
     intro O0 P0 _ a0 H
     have b1 := Shape.i64_bd a0
     obtain ⟨rfl, -⟩ := a0
     refine uV 3 0 (H.fc 0 rfl) ?_
     refine uP 1 ?_
     refine uV 3 1 (H.cells 2 rfl) ?_
     refine uF 2 ?_
     refine qN (W.nodes[i]) frm (fun b0 => ?_) (fun b0 => ?_)
     ·
      have L : hitW W frm hd i = false := by first | exact miss_h (by omega) Z | exact miss_n (by omega) b0
      refine uR 1 [.c [2, 0, 1, 0, 0, 3], .l [2, 0, 1, 0, 0], .b 0, .c [3]] ?_
      refine qG (sq 0 2) ?_
      refine uI ((i : Int) + 1) ?_
      refine uF 1 ?_
      have H := H.pick [2, 3, 4, 5] rfl
      have H := H.frontM 3 (M' := [(z, .cells (wrV W a f m n s t u x).toArray 44 (0, 0)), (J, .cells (hdrV (W.heads[i])).toArray 84 (0, 0)), (y, .cells (wrZ).toArray 44 (0, 0)), (B, .cells #[.I kind, .I frm, x2, x3, x4, x5, x6, x7, .bool ok, x9, x10, x11, x12, .int .u64 hd.id.version, .I hd.id.index, .int .u64 hd.id.epoch, .I hd.kk, .I hd.nn, .I hd.size, .int .u32 ((hd.sum.toNat : Nat) : Int), x20, x21, x22, x23, x24, x25, x26] 89 (0, 0))]) rfl
      have H := H.frontM 3 (M' := [(B, .cells #[.I kind, .I frm, x2, x3, x4, x5, x6, x7, .bool ok, x9, x10, x11, x12, .int .u64 hd.id.version, .I hd.id.index, .int .u64 hd.id.epoch, .I hd.kk, .I hd.nn, .I hd.size, .int .u32 ((hd.sum.toNat : Nat) : Int), x20, x21, x22, x23, x24, x25, x26] 89 (0, 0)), (z, .cells (wrV W a f m n s t u x).toArray 44 (0, 0)), (J, .cells (hdrV (W.heads[i])).toArray 84 (0, 0)), (y, .cells (wrZ).toArray 44 (0, 0))]) rfl
      have H := H.frontM 3 (M' := [(y, .cells (wrZ).toArray 44 (0, 0)), (B, .cells #[.I kind, .I frm, x2, x3, x4, x5, x6, x7, .bool ok, x9, x10, x11, x12, .int .u64 hd.id.version, .I hd.id.index, .int .u64 hd.id.epoch, .I hd.kk, .I hd.nn, .I hd.size, .int .u32 ((hd.sum.toNat : Nat) : Int), x20, x21, x22, x23, x24, x25, x26] 89 (0, 0)), (z, .cells (wrV W a f m n s t u x).toArray 44 (0, 0)), (J, .cells (hdrV (W.heads[i])).toArray 84 (0, 0))]) rfl
      have H := H.drop (M' := [(y, .cells (wrZ).toArray 44 (0, 0)), (B, .cells #[.I kind, .I frm, x2, x3, x4, x5, x6, x7, .bool ok, x9, x10, x11, x12, .int .u64 hd.id.version, .I hd.id.index, .int .u64 hd.id.epoch, .I hd.kk, .I hd.nn, .I hd.size, .int .u32 ((hd.sum.toNat : Nat) : Int), x20, x21, x22, x23, x24, x25, x26] 89 (0, 0)), (z, .cells (wrV W a f m n s t u x).toArray 44 (0, 0))]) (W' := []) (by repeat (first | exact List.Sublist.refl _ | apply List.Sublist.cons_cons | apply List.Sublist.cons)) (by repeat (first | exact List.Sublist.refl _ | apply List.Sublist.cons_cons | apply List.Sublist.cons))
      exact uB (N (i + 1) _ ⟨H, by omega, lt_succ_cases A.2 L⟩ (by first | omega | (simp only []; omega)))
     ·
      have O : hitW W frm hd i = true := hit_at (by omega) (by omega) D0 b0
      refine uR 3 [.c [2, 0, 1, 0, 0, 2, 0, 0, 2, 0, 0], .c [2, 0, 1, 0, 0, 2, 0, 0, 2, 0, 1], .c [2, 0, 1, 0, 0, 2, 0, 0, 3], .b 1, .c [2, 0, 1, 0, 0, 3], .l [2, 0, 1, 0, 0], .b 0, .c [3]] ?_
      refine qG (sq 0 3) ?_
      refine uP 1 ?_
      refine uV 4 8 (H.cells 2 rfl) ?_
      refine uF 1 ?_
      refine qC (!ok) (fun Q => ?_) (fun Q => ?_)
      ·
       replace Q : (ok) = false := by revert Q; cases (ok) <;> simp
       refine uR 1 [.c [2, 0, 1, 0, 0, 2, 0, 0, 2, 0, 1, 0, 0], .c [2, 0, 1, 0, 0, 2, 0, 0, 2, 0, 1, 0, 1], .c [2, 0, 1, 0, 0, 2, 0, 0, 3], .b 1, .c [2, 0, 1, 0, 0, 3], .l [2, 0, 1, 0, 0], .b 0, .c [3]] ?_
       refine qG (sq 0 2) ?_
       refine qP 1 (sq 1 2) [(2, .P z 0), (4, .P y 0), (51, .P z 9)] ?_
       refine uW 28 9 ((wrV W a f m n s t u x).set 9 (.I 2)).toArray H 3 rfl ?_
       intro _ H
       refine uF 0 ?_
       refine uR 2 [.c [3, 0], .c [4]] ?_
       refine WK.drawH1 [y] (.leaf [(0, .qui), (1, .qui), (2, .qui), (3, .seq), (4, .qui)]) Try_mixed (by as_aux_lemma => kernel_rfl) (by as_aux_lemma => kernel_rfl) ?_
       intro Q0 c0
       have H := H.draw
       rw [← c0] at H
       clear c0
       have hS := Chg.refl Q0 [y]
       refine RG.leaf' [(0, .qui), (1, .qui), (2, .qui), (3, .seq), (4, .qui)] (by as_aux_lemma => kernel_rfl) ?_
       refine uHV 44 0 hS (H.cells 3 rfl) (nq1 (H.raws 3 1 rfl rfl (by decide))) ?_
       refine uHP hS 1 ?_
       refine uHV 28 9 hS (H.cells 3 rfl) (nq1 (H.raws 3 1 rfl rfl (by decide))) ?_
       have Hr := H
       refine RH.sto ?_
       refine uWC 44 0 ((wrV W a f m n s t u x).set 9 (.I 2)).toArray H 1 rfl ?_
       intro _ q0 H
       have d0 := hS.sto q0 (.inr (by simp))
       refine ⟨d0, ?_⟩
       have hS := d0
       refine uHF hS 1 ?_
       refine qRB (.tuple #[.agg ((wrV W a f m n s t u x).set 9 (.I 2)).toArray, .I 2]) Tryz.func53 (v2 (.cell 4 44) (.tmp 5) (vC (H.cells 1 rfl)) vT) ?_
       have hpost : (⟨W.client, W.seq, W.key, W.heads, W.chunks, W.nodes, W.acks, W.waited, W.limit, 2⟩, (2 : Int)) = gotOf W kind frm hd ok := by
        clear H
        symm
        unfold gotOf; rw [if_neg C]; rw [find_hit (i := i) (by omega) O A.2]; simp only []; rw [if_pos (by first | assumption | simp_all)]
       exact ⟨_, rfl, H.done, [.int .u64 W.client, .int .u64 W.seq, .string W.key, .slice a W.heads.length f, .slice m W.chunks.length n, .slice s W.nodes.length t, .slice u W.acks.length x, .I W.waited, .I W.limit, .I 2], ⟨W.client, W.seq, W.key, W.heads, W.chunks, W.nodes, W.acks, W.waited, W.limit, 2⟩, 2, rfl, H.out (wr_mk (l0 := [.int .u64 W.client]) (y0 := W.client) (l1 := [.int .u64 W.seq]) (y1 := W.seq) (l2 := [.string W.key]) (y2 := W.key) (l3 := [.slice a W.heads.length f]) (y3 := W.heads) (l4 := [.slice m W.chunks.length n]) (y4 := W.chunks) (l5 := [.slice s W.nodes.length t]) (y5 := W.nodes) (l6 := [.slice u W.acks.length x]) (y6 := W.acks) (l7 := [.I W.waited]) (y7 := W.waited) (l8 := [.I W.limit]) (y8 := W.limit) (l9 := [.I 2]) (y9 := 2) u64a u64a ⟨rfl, M⟩ (H.rp 2 rfl) (H.rp 3 rfl) (H.rp 4 rfl) (H.rp 5 rfl) i64a i64a (Shape.int_mk (by decide))), hpost⟩
      ·
       replace Q : (ok) = true := by revert Q; cases (ok) <;> simp
       refine uR 5 [.c [2, 0, 1, 0, 0, 2, 0, 0, 4, 0, 0], .c [2, 0, 1, 0, 0, 2, 0, 0, 4, 0, 1], .c [2, 0, 1, 0, 0, 2, 0, 0, 5], .b 1, .c [2, 0, 1, 0, 0, 3], .l [2, 0, 1, 0, 0], .b 0, .c [3]] ?_
       refine qG (sq 0 4) ?_
       refine uP 1 ?_
       refine uV 41 3 (H.cells 3 rfl) ?_
       refine uF 2 ?_
       refine uR 1 [.c [2, 0, 1, 0, 0, 2, 0, 0, 4, 0, 1, 0], .b 2, .c [2, 0, 1, 0, 0, 2, 0, 0, 5], .b 1, .c [2, 0, 1, 0, 0, 3], .l [2, 0, 1, 0, 0], .b 0, .c [3]] ?_
       have H := H.ownNil (Shape.int .i64) 3
       refine uL (α := Nat × Option Addr × Nat) (g := 53) (p := [2, 0, 1, 0, 0, 2, 0, 0, 4, 0, 1, 0, 0]) (fun (k, ao, co) => [(2, .P z 0), (4, .P y 0), (6, .I i), (8, .slice ao (acksOf W i k).length co), (54, .I ((W.heads.length : Nat) : Int)), (55, .I k)]) (fun (k, ao, co) w' => Hp w S [] [(J, .cells (hdrV (W.heads[i])).toArray 84 (0, 0)), (y, .cells (wrZ).toArray 44 (0, 0)), (B, .cells #[.I kind, .I frm, x2, x3, x4, x5, x6, x7, .bool ok, x9, x10, x11, x12, .int .u64 hd.id.version, .I hd.id.index, .int .u64 hd.id.epoch, .I hd.kk, .I hd.nn, .I hd.size, .int .u32 ((hd.sum.toNat : Nat) : Int), x20, x21, x22, x23, x24, x25, x26] 89 (0, 0)), (z, .cells (wrV W a f m n s t u x).toArray 44 (0, 0))] [⟨Shape.int .i64, 3, .slice ao (acksOf W i k).length co, acksOf W i k⟩] [Fc O0 P0 [.I (W.nodes[i])], Fc M0 N0 (hdrV (W.heads[i])), Rp (Shape.slice hdrS) [.slice a W.heads.length f] W.heads, Rp (Shape.slice SB) [.slice m W.chunks.length n] W.chunks, Rp (Shape.slice (Shape.int .i64)) [.slice s W.nodes.length t] W.nodes, Rp (Shape.slice (Shape.int .i64)) [.slice u W.acks.length x] W.acks] w' ∧ k ≤ W.heads.length) (fun (k, ao, co) => W.heads.length - k) (0, none, 0) ⟨H, Nat.zero_le _⟩ ?_
       rintro ⟨k, ao, co⟩ _ ⟨H, _⟩ F
       have hal := acksOf_le W i k
       refine uR 3 [.c [2, 0, 1, 0, 0, 2, 0, 0, 4, 0, 1, 0, 0, 1, 0], .c [2, 0, 1, 0, 0, 2, 0, 0, 4, 0, 1, 0, 0, 2], .l [2, 0, 1, 0, 0, 2, 0, 0, 4, 0, 1, 0, 0], .b 2, .c [2, 0, 1, 0, 0, 2, 0, 0, 5], .b 1, .c [2, 0, 1, 0, 0, 3], .l [2, 0, 1, 0, 0], .b 0, .c [3]] ?_
       refine qD (((k : Int) : Int) < ((W.heads.length : Nat) : Int)) (fun R0 => ?_) (fun R0 => ?_)
       ·
        refine uR 6 [.c [2, 0, 1, 0, 0, 2, 0, 0, 4, 0, 1, 0, 0, 2, 0, 0, 1, 0], .c [2, 0, 1, 0, 0, 2, 0, 0, 4, 0, 1, 0, 0, 2, 0, 0, 2], .b 3, .c [2, 0, 1, 0, 0, 2, 0, 0, 4, 0, 1, 0, 0, 3], .l [2, 0, 1, 0, 0, 2, 0, 0, 4, 0, 1, 0, 0], .b 2, .c [2, 0, 1, 0, 0, 2, 0, 0, 5], .b 1, .c [2, 0, 1, 0, 0, 3], .l [2, 0, 1, 0, 0], .b 0, .c [3]] ?_
        refine qG (sq 0 9) ?_
        refine uP 4 ?_
        refine uE 61 (k : Int) (i : Int) (fun S0 => ?_) (fun S0 => ?_)
        ·
         refine uF 5 ?_
         refine uR 1 [.c [2, 0, 1, 0, 0, 2, 0, 0, 4, 0, 1, 0, 0, 2, 0, 0, 2, 0], .b 3, .c [2, 0, 1, 0, 0, 2, 0, 0, 4, 0, 1, 0, 0, 3], .l [2, 0, 1, 0, 0, 2, 0, 0, 4, 0, 1, 0, 0], .b 2, .c [2, 0, 1, 0, 0, 2, 0, 0, 5], .b 1, .c [2, 0, 1, 0, 0, 3], .l [2, 0, 1, 0, 0], .b 0, .c [3]] ?_
         refine qG (sq 0 5) ?_
         refine uP 2 ?_
         refine RW.new (κ := .seq) (d := some 69) (r := (sq 3 5)) (o := .cells #[.I k] 3 (0, 0)) (v := fun b => .slice (some ⟨b, 0, none⟩) 1 1) (fun b => by as_aux_lemma => kernel_rfl) (nofun) H ?_
         intro T0 _ H
         have H := H.freeze 0 rfl (Shape.int .i64) ([(k : Int)] : List Int) 1 (by simp [maxLen]) (by first | exact Nat.le_refl _ | simp) (EsP.cons (c := [.I k]) i64a EsP.nil)
         have H : Hp w S [] [_, _, _, _] [_] [Rp (Shape.slice (Shape.int .i64)) [.slice (some ⟨T0, 0, none⟩) 1 1] ([(k : Int)] : List Int), _, _, _, _, _, _] _ := H
         refine uA 24 24 8 (acksOf W i (k + 1)) H 0 rfl 0 rfl (acksOf_yes (by first | (left; assumption) | (right; assumption))) (by have := acksOf_le W i (k + 1); omega) ?_
         intro e0 f0 _ H _
         have H : Hp w S [] [_, _, _, _] [⟨Shape.int .i64, 3, .slice e0 ((acksOf W i (k + 1)).length) f0, acksOf W i (k + 1)⟩] [_, _, _, _, _, _, _] _ := H
         refine uF 1 ?_
         refine uR 1 [.c [2, 0, 1, 0, 0, 2, 0, 0, 4, 0, 1, 0, 0, 3], .l [2, 0, 1, 0, 0, 2, 0, 0, 4, 0, 1, 0, 0], .b 2, .c [2, 0, 1, 0, 0, 2, 0, 0, 5], .b 1, .c [2, 0, 1, 0, 0, 3], .l [2, 0, 1, 0, 0], .b 0, .c [3]] ?_
         refine qG (sq 0 2) ?_
         refine uI ((k : Int) + 1) ?_
         refine qF 1 [(2, .P z 0), (4, .P y 0), (6, .I i), (8, .slice e0 ((acksOf W i (k + 1)).length) f0), (54, .I ((W.heads.length : Nat) : Int)), (55, .I ((k : Int) + 1))] ?_
         have H := H.pick [1, 2, 3, 4, 5, 6] rfl
         exact WK.back (F (k + 1, e0, f0) _ ⟨H, by omega⟩ (by first | omega | (simp only []; omega))) (by first | rfl | (rw [acksOf_no (by assumption) (by assumption)]; rfl))
        ·
         refine uP 1 ?_
         refine uV 24 6 (H.cells 3 rfl) ?_
         refine uP 1 ?_
         refine uK (contains_spec (k : Int) (H.rp 5 rfl)) ?_
         rintro _ _ F0 rfl
         have H := H.ext F0
         refine uF 1 ?_
         refine qD ((k : Int) ∈ W.acks) (fun U0 => ?_) (fun U0 => ?_)
         ·
          refine qG (sq 0 5) ?_
          refine uP 2 ?_
          refine RW.new (κ := .seq) (d := some 69) (r := (sq 3 5)) (o := .cells #[.I k] 3 (0, 0)) (v := fun b => .slice (some ⟨b, 0, none⟩) 1 1) (fun b => by as_aux_lemma => kernel_rfl) (nofun) H ?_
          intro V0 _ H
          have H := H.freeze 0 rfl (Shape.int .i64) ([(k : Int)] : List Int) 1 (by simp [maxLen]) (by first | exact Nat.le_refl _ | simp) (EsP.cons (c := [.I k]) i64a EsP.nil)
          have H : Hp w S [] [_, _, _, _] [_] [Rp (Shape.slice (Shape.int .i64)) [.slice (some ⟨V0, 0, none⟩) 1 1] ([(k : Int)] : List Int), _, _, _, _, _, _] _ := H
          refine uA 24 24 8 (acksOf W i (k + 1)) H 0 rfl 0 rfl (acksOf_yes (by first | (left; assumption) | (right; assumption))) (by have := acksOf_le W i (k + 1); omega) ?_
          intro g0 h0 _ H _
          have H : Hp w S [] [_, _, _, _] [⟨Shape.int .i64, 3, .slice g0 ((acksOf W i (k + 1)).length) h0, acksOf W i (k + 1)⟩] [_, _, _, _, _, _, _] _ := H
          refine uF 1 ?_
          refine uR 1 [.c [2, 0, 1, 0, 0, 2, 0, 0, 4, 0, 1, 0, 0, 3], .l [2, 0, 1, 0, 0, 2, 0, 0, 4, 0, 1, 0, 0], .b 2, .c [2, 0, 1, 0, 0, 2, 0, 0, 5], .b 1, .c [2, 0, 1, 0, 0, 3], .l [2, 0, 1, 0, 0], .b 0, .c [3]] ?_
          refine qG (sq 0 2) ?_
          refine uI ((k : Int) + 1) ?_
          refine qF 1 [(2, .P z 0), (4, .P y 0), (6, .I i), (8, .slice g0 ((acksOf W i (k + 1)).length) h0), (54, .I ((W.heads.length : Nat) : Int)), (55, .I ((k : Int) + 1))] ?_
          have H := H.pick [1, 2, 3, 4, 5, 6] rfl
          exact WK.back (F (k + 1, g0, h0) _ ⟨H, by omega⟩ (by first | omega | (simp only []; omega))) (by first | rfl | (rw [acksOf_no (by assumption) (by assumption)]; rfl))
         ·
          refine uR 2 [.c [2, 0, 1, 0, 0, 2, 0, 0, 4, 0, 1, 0, 0, 3], .l [2, 0, 1, 0, 0, 2, 0, 0, 4, 0, 1, 0, 0], .b 2, .c [2, 0, 1, 0, 0, 2, 0, 0, 5], .b 1, .c [2, 0, 1, 0, 0, 3], .l [2, 0, 1, 0, 0], .b 0, .c [3]] ?_
          refine qG (sq 0 2) ?_
          refine uI ((k : Int) + 1) ?_
          refine qF 1 [(2, .P z 0), (4, .P y 0), (6, .I i), (8, .slice ao (acksOf W i k).length co), (54, .I ((W.heads.length : Nat) : Int)), (55, .I ((k : Int) + 1))] ?_
          have H := H.reW (acksOf_no (by assumption) (by assumption)) (by rw [acksOf_no (by assumption) (by assumption)])
          exact WK.back (F (k + 1, ao, co) _ ⟨H, by omega⟩ (by first | omega | (simp only []; omega))) (by first | rfl | (rw [acksOf_no (by assumption) (by assumption)]; rfl))
       ·
        refine uR 2 [.c [2, 0, 1, 0, 0, 2, 0, 0, 5, 0], .c [2, 0, 1, 0, 0, 2, 0, 0, 6], .b 1, .c [2, 0, 1, 0, 0, 3], .l [2, 0, 1, 0, 0], .b 0, .c [3]] ?_
        refine qG (sq 0 3) ?_
        refine uP 2 ?_
        refine uW 24 6 ((wrV W a f m n s t none 0).set 6 (.slice ao (acksOf W i k).length co)).toArray H 3 rfl ?_
        intro _ H
        refine uF 0 ?_
        refine uR 2 [.c [2, 0, 1, 0, 0, 2, 0, 0, 6, 0, 0], .c [2, 0, 1, 0, 0, 2, 0, 0, 6, 0, 1], .c [2, 0, 1, 0, 0, 2, 0, 0, 7], .b 1, .c [2, 0, 1, 0, 0, 3], .l [2, 0, 1, 0, 0], .b 0, .c [3]] ?_
        refine qG (sq 0 6) ?_
        refine uP 3 ?_
        refine uV 41 3 (H.cells 3 rfl) ?_
        refine uF 2 ?_
        refine qE (((acksOf W i k).length : Nat) : Int) ((W.heads.length : Nat) : Int) (fun W0 => ?_) (fun W0 => ?_)
        ·
         refine qG (sq 0 2) ?_
         refine uP 1 ?_
         refine uW 28 9 (((wrV W a f m n s t none 0).set 6 (.slice ao (acksOf W i k).length co)).set 9 (.I 1)).toArray H 3 rfl ?_
         intro _ H
         refine qF 0 [(2, .P z 0), (4, .P y 0)] ?_
         refine uR 2 [.c [3, 0], .c [4]] ?_
         refine WK.drawH1 [y] (.leaf [(0, .qui), (1, .qui), (2, .qui), (3, .seq), (4, .qui)]) Try_mixed (by as_aux_lemma => kernel_rfl) (by as_aux_lemma => kernel_rfl) ?_
         intro X0 i0
         have H := H.draw
         rw [← i0] at H
         clear i0
         have hS := Chg.refl X0 [y]
         refine RG.leaf' [(0, .qui), (1, .qui), (2, .qui), (3, .seq), (4, .qui)] (by as_aux_lemma => kernel_rfl) ?_
         refine uHV 44 0 hS (H.cells 3 rfl) (nq1 (H.raws 3 1 rfl rfl (by decide))) ?_
         refine uHP hS 1 ?_
         refine uHV 28 9 hS (H.cells 3 rfl) (nq1 (H.raws 3 1 rfl rfl (by decide))) ?_
         have Hr := H
         refine RH.sto ?_
         refine uWC 44 0 (((wrV W a f m n s t none 0).set 6 (.slice ao (acksOf W i k).length co)).set 9 (.I 1)).toArray H 1 rfl ?_
         intro _ r0 H
         have j0 := hS.sto r0 (.inr (by simp))
         refine ⟨j0, ?_⟩
         have hS := j0
         refine uHF hS 1 ?_
         refine qRB (.tuple #[.agg (((wrV W a f m n s t none 0).set 6 (.slice ao (acksOf W i k).length co)).set 9 (.I 1)).toArray, .I 1]) Tryz.func53 (v2 (.cell 4 44) (.tmp 5) (vC (H.cells 1 rfl)) vT) ?_
         have H : Hp w S [] [_, _, _, _] [] [Rp (Shape.slice (Shape.int .i64)) [.slice ao (acksOf W i k).length co] (acksOf W i k), _, _, _, _, _, _] _ := H.freezeW 0 rfl
         have hpost : (⟨W.client, W.seq, W.key, W.heads, W.chunks, W.nodes, acksOf W i k, W.waited, W.limit, 1⟩, (1 : Int)) = gotOf W kind frm hd ok := by
          clear H
          symm
          unfold gotOf; rw [if_neg C]; have hk9 : k = W.heads.length := by omega
          subst hk9
          rw [find_hit (i := i) (by omega) O A.2]; simp only []; rw [if_neg (by simp_all)]; rw [if_pos (by omega)]
         exact ⟨_, rfl, H.done, [.int .u64 W.client, .int .u64 W.seq, .string W.key, .slice a W.heads.length f, .slice m W.chunks.length n, .slice s W.nodes.length t, .slice ao (acksOf W i k).length co, .I W.waited, .I W.limit, .I 1], ⟨W.client, W.seq, W.key, W.heads, W.chunks, W.nodes, acksOf W i k, W.waited, W.limit, 1⟩, 1, rfl, H.out (wr_mk (l0 := [.int .u64 W.client]) (y0 := W.client) (l1 := [.int .u64 W.seq]) (y1 := W.seq) (l2 := [.string W.key]) (y2 := W.key) (l3 := [.slice a W.heads.length f]) (y3 := W.heads) (l4 := [.slice m W.chunks.length n]) (y4 := W.chunks) (l5 := [.slice s W.nodes.length t]) (y5 := W.nodes) (l6 := [.slice ao (acksOf W i k).length co]) (y6 := acksOf W i k) (l7 := [.I W.waited]) (y7 := W.waited) (l8 := [.I W.limit]) (y8 := W.limit) (l9 := [.I 1]) (y9 := 1) u64a u64a ⟨rfl, M⟩ (H.rp 3 rfl) (H.rp 4 rfl) (H.rp 5 rfl) (H.rp 0 rfl) i64a i64a (Shape.int_mk (by decide))), hpost⟩
        ·
         refine uR 3 [.c [3, 0], .c [4]] ?_
         refine WK.drawH1 [y] (.leaf [(0, .qui), (1, .qui), (2, .qui), (3, .seq), (4, .qui)]) Try_mixed (by as_aux_lemma => kernel_rfl) (by as_aux_lemma => kernel_rfl) ?_
         intro Y0 k0
         have H := H.draw
         rw [← k0] at H
         clear k0
         have hS := Chg.refl Y0 [y]
         refine RG.leaf' [(0, .qui), (1, .qui), (2, .qui), (3, .seq), (4, .qui)] (by as_aux_lemma => kernel_rfl) ?_
         refine uHV 44 0 hS (H.cells 3 rfl) (nq1 (H.raws 3 1 rfl rfl (by decide))) ?_
         refine uHP hS 1 ?_
         refine uHV 28 9 hS (H.cells 3 rfl) (nq1 (H.raws 3 1 rfl rfl (by decide))) ?_
         have Hr := H
         refine RH.sto ?_
         refine uWC 44 0 ((wrV W a f m n s t none 0).set 6 (.slice ao (acksOf W i k).length co)).toArray H 1 rfl ?_
         intro _ s0 H
         have m0 := hS.sto s0 (.inr (by simp))
         refine ⟨m0, ?_⟩
         have hS := m0
         refine uHF hS 1 ?_
         refine qRB (.tuple #[.agg ((wrV W a f m n s t none 0).set 6 (.slice ao (acksOf W i k).length co)).toArray, .I W.done]) Tryz.func53 (v2 (.cell 4 44) (.tmp 5) (vC (H.cells 1 rfl)) vT) ?_
         have H : Hp w S [] [_, _, _, _] [] [_, _, _, _, _, _, _] _ := H.freezeW 0 rfl
         have hpost : (⟨W.client, W.seq, W.key, W.heads, W.chunks, W.nodes, acksOf W i k, W.waited, W.limit, W.done⟩, (W.done : Int)) = gotOf W kind frm hd ok := by
          clear H
          symm
          unfold gotOf; rw [if_neg C]; have hk9 : k = W.heads.length := by omega
          subst hk9
          rw [find_hit (i := i) (by omega) O A.2]; simp only []; rw [if_neg (by simp_all)]; rw [if_neg (by omega)]
         exact ⟨_, rfl, H.done, [.int .u64 W.client, .int .u64 W.seq, .string W.key, .slice a W.heads.length f, .slice m W.chunks.length n, .slice s W.nodes.length t, .slice ao (acksOf W i k).length co, .I W.waited, .I W.limit, .I W.done], ⟨W.client, W.seq, W.key, W.heads, W.chunks, W.nodes, acksOf W i k, W.waited, W.limit, W.done⟩, W.done, rfl, H.out (wr_mk (l0 := [.int .u64 W.client]) (y0 := W.client) (l1 := [.int .u64 W.seq]) (y1 := W.seq) (l2 := [.string W.key]) (y2 := W.key) (l3 := [.slice a W.heads.length f]) (y3 := W.heads) (l4 := [.slice m W.chunks.length n]) (y4 := W.chunks) (l5 := [.slice s W.nodes.length t]) (y5 := W.nodes) (l6 := [.slice ao (acksOf W i k).length co]) (y6 := acksOf W i k) (l7 := [.I W.waited]) (y7 := W.waited) (l8 := [.I W.limit]) (y8 := W.limit) (l9 := [.I W.done]) (y9 := W.done) u64a u64a ⟨rfl, M⟩ (H.rp 3 rfl) (H.rp 4 rfl) (H.rp 5 rfl) (H.rp 0 rfl) i64a i64a i64a), hpost⟩
   ·
    refine uR 2 [.c [3, 0], .c [4]] ?_
    refine WK.drawH1 [y] (.leaf [(0, .qui), (1, .qui), (2, .qui), (3, .seq), (4, .qui)]) Try_mixed (by as_aux_lemma => kernel_rfl) (by as_aux_lemma => kernel_rfl) ?_
    intro Z0 n0
    have H := H.draw
    rw [← n0] at H
    clear n0
    have hS := Chg.refl Z0 [y]
    refine RG.leaf' [(0, .qui), (1, .qui), (2, .qui), (3, .seq), (4, .qui)] (by as_aux_lemma => kernel_rfl) ?_
    refine uHV 44 0 hS (H.cells 2 rfl) (nq1 (H.raws 2 0 rfl rfl (by decide))) ?_
    refine uHP hS 1 ?_
    refine uHV 28 9 hS (H.cells 2 rfl) (nq1 (H.raws 2 0 rfl rfl (by decide))) ?_
    have Hr := H
    refine RH.sto ?_
    refine uWC 44 0 (wrV W a f m n s t u x).toArray H 0 rfl ?_
    intro _ t0 H
    have o0 := hS.sto t0 (.inr (by simp))
    refine ⟨o0, ?_⟩
    have hS := o0
    refine uHF hS 1 ?_
    refine qRB (.tuple #[.agg (wrV W a f m n s t u x).toArray, .I W.done]) Tryz.func53 (v2 (.cell 4 44) (.tmp 5) (vC (H.cells 0 rfl)) vT) ?_
    have hpost : (W, (W.done : Int)) = gotOf W kind frm hd ok := by
     clear H
     symm
     unfold gotOf; rw [if_neg C]; rw [find_none fun j hj => A.2 j (by omega)]
    exact ⟨_, rfl, H.done, [.int .u64 W.client, .int .u64 W.seq, .string W.key, .slice a W.heads.length f, .slice m W.chunks.length n, .slice s W.nodes.length t, .slice u W.acks.length x, .I W.waited, .I W.limit, .I W.done], W, W.done, rfl, H.out (wr_mkV u64a u64a ⟨rfl, M⟩ (H.rp 0 rfl) (H.rp 1 rfl) (H.rp 2 rfl) (H.rp 3 rfl) i64a i64a i64a), hpost⟩
end Go.Proofs.YtppcdmbkgficiaaGreat
