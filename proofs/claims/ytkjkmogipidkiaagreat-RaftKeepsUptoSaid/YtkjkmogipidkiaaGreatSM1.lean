import Derived.Test.YtkjkmogipidkiaaGreatSBxA
import Derived.Test.YtkjkmogipidkiaaGreatSA3
namespace Go.Proofs.YtkjkmogipidkiaaGreat
open Go.BX
theorem Fc.pre {S : Nat → Prop} {w : World} {b : Nat} {xs ys : List Value} (h0 : 0 < xs.length) (h : (Fc b 0 (xs ++ ys)).p S w) : (Fc b 0 xs).p S w :=
 ⟨h0, h.2.1, fun j v hj => h.2.2 j v (by rw [List.getElem?_append_left (List.getElem?_eq_some_iff.1 hj).1]; exact hj)⟩
def lastL (l : List Ent) (b t : Int) : Int × Int := match l[l.length - 1]? with
 | some e => (e.index, e.term)
 | none => (b, t)
theorem lastL_some {l : List Ent} {b t : Int} (h : 0 < l.length) : lastL l b t = (l[l.length - 1].index, l[l.length - 1].term) := by
 unfold lastL
 rw [List.getElem?_eq_getElem (by omega)]
theorem lastL_none {l : List Ent} {b t : Int} (h : l.length = 0) : lastL l b t = (b, t) := by
 unfold lastL
 rw [List.getElem?_eq_none (by omega)]
theorem last0_spec {S : Nat → Prop} {w : World} {sb : Nat} {l : List Ent} {al av aw : Option Addr} {kl vn kv wn kw : Nat} {ce0 : Value} {ce1 : Value} {ce2 : Value} {ce3 : Value} {ce4 : Value} {ce9 : Value} {ce11 : Value} {ce12 : Value} {ce13 : Value} {ce14 : Value} {ce15 : Value} {ce16 : Value} {ce17 : Value} {ce18 : Value} {ce19 : Value} {ce20 : Value} {bs bq : Int} (hF : (Fc sb 0 [ce0, ce1, ce2, ce3, ce4, .int .u64 bs, .int .u64 bq, .slice av vn kv, .slice aw wn kw, ce9, .slice al l.length kl, ce11, ce12, ce13, ce14, ce15, ce16, ce17, ce18, ce19, ce20]).p S w) (h : (Shape.slice entS).rep S w [.slice al l.length kl] l) :
 Calls Tryz.prog 42 #[.P sb 0] w (Ret fun v w' => Ext w w' ∧ v = .tuple #[.int .u64 (lastL l bs bq).1, .int .u64 (lastL l bs bq).2]) := by
 have hlen := Shape.slice_len h
 refine uS1 Tryz.func42 ?_
 have H := Hp.startF (w := w) (S := S) (G := [Fc sb 0 [ce0, ce1, ce2, ce3, ce4, .int .u64 bs, .int .u64 bq, .slice av vn kv, .slice aw wn kw, ce9, .slice al l.length kl, ce11, ce12, ce13, ce14, ce15, ce16, ce17, ce18, ce19, ce20], Rp (Shape.slice entS) [.slice al l.length kl] l]) (.cons hF (.rp h .nil))
 refine uR 4 [.c [1, 0, 0], .c [1, 0, 1], .c [2]] ?_
 refine qG (sq 0 7) ?_
 refine uP 4 ?_
 refine uV 30 10 (H.fc 0 rfl) ?_
 refine uF 2 ?_
 refine uR 2 [.c [1, 0, 2], .c [2]] ?_
 refine qD ((((l.length : Nat) : Int) : Int) > 0) (fun A => ?_) (fun A => ?_)
 ·
  refine uR 1 [.c [1, 0, 2, 0, 0], .c [1, 0, 2, 0, 1], .c [2]] ?_
  refine WK.draw1 22 (qs [0, 1, 2, 3, 4, 5, 6, 7, 8, 9, 10, 11, 12, 13, 14, 15, 16, 17, 18, 19, 20, 21]) (qs [0, 1, 2, 3, 4, 5, 6, 7, 8, 9, 10, 11, 12, 13, 14, 15, 16, 17, 18, 19, 20, 21]) Tryz_mixed (by as_aux_lemma => kernel_rfl) (by as_aux_lemma => kernel_rfl) (by as_aux_lemma => kernel_rfl) ?_
  have H := H.draw
  generalize ({ w with drawn := w.drawn + 1 } : World) = C at H ⊢
  refine uP 4 ?_
  refine uV 30 10 (H.fc 0 rfl) ?_
  refine uP 1 ?_
  refine uI (((l.length : Nat) : Int) - 1) ?_
  have u : (l.length - 1) < l.length := by omega
  refine uX 30 (((l.length : Nat) : Int) - 1) H 1 rfl (l.length - 1) (by omega) (List.getElem?_eq_getElem u) ?_
  intro _ _ _ x H
  obtain ⟨_, _, rfl, _, _, _, a, b⟩ := ent_open x
  obtain ⟨_, _, rfl, _, _, _, _, _, _, _, _, _, d, e⟩ := cmd_open a
  obtain ⟨rfl, _, _, _⟩ := cid_open d
  obtain ⟨_, _, rfl, _, f⟩ := amap_open e
  obtain ⟨_, _, _, _, rfl, g, i⟩ := conf_open b
  have H := H.addR f
  have H := H.addR g
  have H := H.addR i
  refine uP 1 ?_
  refine uV 25 0 (H.fc 3 rfl) ?_
  refine uP 4 ?_
  refine uV 30 10 (H.fc 4 rfl) ?_
  refine uP 1 ?_
  refine uI (((l.length : Nat) : Int) - 1) ?_
  have j : (l.length - 1) < l.length := by omega
  refine uX 30 (((l.length : Nat) : Int) - 1) H 5 rfl (l.length - 1) (by omega) (List.getElem?_eq_getElem j) ?_
  intro y z _ k H
  obtain ⟨_, _, rfl, _, _, _, m, n⟩ := ent_open k
  obtain ⟨_, _, rfl, _, _, _, _, _, _, _, _, _, o, q⟩ := cmd_open m
  obtain ⟨rfl, _, _, _⟩ := cid_open o
  obtain ⟨_, _, rfl, _, r⟩ := amap_open q
  obtain ⟨_, _, _, _, rfl, s, t⟩ := conf_open n
  have H := H.addR r
  have H := H.addR s
  have H := H.addR t
  refine qP 1 (qs [19, 20, 21]) [(22, .int .u64 ((l[(l.length - 1)]).index)), (31, .pointer (some ⟨y, z + 1, none⟩))] ?_
  refine uV 25 1 (H.fc 3 rfl) ?_
  refine uF 2 ?_
  refine qT (.tuple #[.int .u64 ((l[(l.length - 1)]).index), .int .u64 ((l[(l.length - 1)]).term)]) Tryz.func42 ?_
  refine ⟨_, rfl, H.done, ?_⟩
  rw [lastL_some (by omega)]
 ·
  refine uR 2 [.c [2, 0], .c [3]] ?_
  refine WK.draw1 12 (qs [0, 1, 2, 3, 4, 5, 6, 7, 8, 9, 10, 11]) (qs [0, 1, 2, 3, 4, 5, 6, 7, 8, 9, 10, 11]) Tryz_mixed (by as_aux_lemma => kernel_rfl) (by as_aux_lemma => kernel_rfl) (by as_aux_lemma => kernel_rfl) ?_
  have H := H.draw
  generalize ({ w with drawn := w.drawn + 1 } : World) = B at H ⊢
  refine uP 4 ?_
  refine uV 25 5 (H.fc 0 rfl) ?_
  refine uP 4 ?_
  refine uV 25 6 (H.fc 0 rfl) ?_
  refine uF 2 ?_
  refine qT (.tuple #[.int .u64 bs, .int .u64 bq]) Tryz.func42 ?_
  refine ⟨_, rfl, H.done, ?_⟩
  rw [lastL_none (by omega)]
theorem change0_spec {S : Nat → Prop} {w : World} {sb : Nat} {l : List Ent} {al av aw : Option Addr} {kl vn kv wn kw : Nat} {ce0 : Value} {ce1 : Value} {ce2 : Value} {ce3 : Value} {ce4 : Value} {ce5 : Value} {ce6 : Value} {ce9 : Value} {ce11 : Value} {ce12 : Value} {ce13 : Value} {ce14 : Value} {ce15 : Value} {ce16 : Value} {ce17 : Value} {ce18 : Value} {ce19 : Value} {ce20 : Value} (hF : (Fc sb 0 [ce0, ce1, ce2, ce3, ce4, ce5, ce6, .slice av vn kv, .slice aw wn kw, ce9, .slice al l.length kl, ce11, ce12, ce13, ce14, ce15, ce16, ce17, ce18, ce19, ce20]).p S w) (h : (Shape.slice entS).rep S w [.slice al l.length kl] l) (hno : ∀ e ∈ l, e.kind ≠ 2) :
 Calls Tryz.prog 65 #[.P sb 0] w (Ret fun v w' => Ext w w' ∧ v = .pointer none) := by
 have hlen := Shape.slice_len h
 refine uS1 Tryz.func65 ?_
 have H := Hp.startF (w := w) (S := S) (G := [Fc sb 0 [ce0, ce1, ce2, ce3, ce4, ce5, ce6, .slice av vn kv, .slice aw wn kw, ce9, .slice al l.length kl, ce11, ce12, ce13, ce14, ce15, ce16, ce17, ce18, ce19, ce20], Rp (Shape.slice entS) [.slice al l.length kl] l]) (.cons hF (.rp h .nil))
 refine uR 4 [.c [1, 0, 0], .c [1, 0, 1], .c [2]] ?_
 refine qG (sq 0 8) ?_
 refine uP 4 ?_
 refine uV 30 10 (H.fc 0 rfl) ?_
 refine uP 1 ?_
 refine uI (((l.length : Nat) : Int) - 1) ?_
 refine uF 1 ?_
 refine uR 1 [.c [1, 0, 1, 0], .b 0, .c [2]] ?_
 refine uL (α := Nat) (g := 65) (p := [1, 0, 1, 0, 0]) (fun k => [(0, .P sb 0), (3, .I ((k : Int) - 1))]) (fun k w' => Hp w S [] [] [] [Fc sb 0 [ce0, ce1, ce2, ce3, ce4, ce5, ce6, .slice av vn kv, .slice aw wn kw, ce9, .slice al l.length kl, ce11, ce12, ce13, ce14, ce15, ce16, ce17, ce18, ce19, ce20], Rp (Shape.slice entS) [.slice al l.length kl] l] w' ∧ k ≤ l.length) (fun k => k) l.length ⟨H, Nat.le_refl _⟩ ?_
 rintro k _ ⟨H, _⟩ a
 refine uR 3 [.c [1, 0, 1, 0, 0, 0, 1], .c [1, 0, 1, 0, 0, 1], .l [1, 0, 1, 0, 0], .b 0, .c [2]] ?_
 refine qD ((((k : Int) - 1) : Int) ≥ 0) (fun t => ?_) (fun t => ?_)
 ·
  refine uR 4 [.c [1, 0, 1, 0, 0, 1, 0, 0, 0], .c [1, 0, 1, 0, 0, 1, 0, 0, 1], .b 1, .c [1, 0, 1, 0, 0, 2], .l [1, 0, 1, 0, 0], .b 0, .c [2]] ?_
  refine qG (sq 0 10) ?_
  refine uP 4 ?_
  refine uV 30 10 (H.fc 0 rfl) ?_
  refine uP 1 ?_
  have r : (k - 1) < l.length := by omega
  refine uX 30 ((k : Int) - 1) H 1 rfl (k - 1) (by omega) (List.getElem?_eq_getElem r) ?_
  intro _ _ _ s H
  obtain ⟨_, _, rfl, _, _, _, f, i⟩ := ent_open s
  obtain ⟨_, _, rfl, _, _, _, _, _, _, _, _, _, j, m⟩ := cmd_open f
  obtain ⟨rfl, _, _, _⟩ := cid_open j
  obtain ⟨_, _, rfl, _, n⟩ := amap_open m
  obtain ⟨_, _, _, _, rfl, o, q⟩ := conf_open i
  have H := H.addR n
  have H := H.addR o
  have H := H.addR q
  refine uP 1 ?_
  refine uV 69 2 (H.fc 3 rfl) ?_
  refine uF 1 ?_
  refine qE ((l[(k - 1)]).kind) 2 (fun d => ?_) (fun d => ?_)
  ·
   exact absurd d (hno _ (List.getElem_mem _))
  ·
   refine uR 2 [.c [1, 0, 1, 0, 0, 2], .l [1, 0, 1, 0, 0], .b 0, .c [2]] ?_
   refine qG (sq 0 3) ?_
   refine uP 1 ?_
   refine uI (((k : Int) - 1) - 1) ?_
   refine uF 1 ?_
   rw [show (k : Int) - 1 - 1 = ((k - 1 : Nat) : Int) - 1 by omega]
   have H := H.pick [4, 5] rfl
   exact uB (a (k - 1) _ ⟨H, by omega⟩ (by first | omega | (simp only []; omega)))
 ·
  refine uR 3 [.c [3]] ?_
  refine qT (.pointer none) Tryz.func65 ?_
  exact ⟨_, rfl, H.done, rfl⟩
theorem conf0_spec {S : Nat → Prop} {w : World} {sb : Nat} {l : List Ent} {al av aw : Option Addr} {kl vn kv wn kw : Nat} {ce0 : Value} {ce1 : Value} {ce2 : Value} {ce3 : Value} {ce4 : Value} {ce5 : Value} {ce6 : Value} {ce9 : Value} {ce11 : Value} {ce12 : Value} {ce13 : Value} {ce14 : Value} {ce15 : Value} {ce16 : Value} {ce17 : Value} {ce18 : Value} {ce19 : Value} {ce20 : Value} (hF : (Fc sb 0 [ce0, ce1, ce2, ce3, ce4, ce5, ce6, .slice av vn kv, .slice aw wn kw, ce9, .slice al l.length kl, ce11, ce12, ce13, ce14, ce15, ce16, ce17, ce18, ce19, ce20]).p S w) (h : (Shape.slice entS).rep S w [.slice al l.length kl] l) (hno : ∀ e ∈ l, e.kind ≠ 2) :
 Calls Tryz.prog 32 #[.P sb 0] w (Ret fun v w' => Ext w w' ∧ v = .agg #[.slice av vn kv, .slice aw wn kw]) := by
 refine uS1 Tryz.func32 ?_
 have H := Hp.startF (w := w) (S := S) (G := [Fc sb 0 [ce0, ce1, ce2, ce3, ce4, ce5, ce6, .slice av vn kv, .slice aw wn kw, ce9, .slice al l.length kl, ce11, ce12, ce13, ce14, ce15, ce16, ce17, ce18, ce19, ce20], Rp (Shape.slice entS) [.slice al l.length kl] l]) (.cons hF (.rp h .nil))
 refine uR 1 [.c [0], .c [1]] ?_
 refine qG (sq 0 1) ?_
 refine uC #[.slice none 0 0, .slice none 0 0] 28 H ?_
 intro _ _ H
 refine uF 0 ?_
 refine uR 2 [.c [1, 0, 0], .c [1, 0, 1], .c [2]] ?_
 refine qG (sq 0 3) ?_
 refine uP 1 ?_
 refine uK (change0_spec (S := fun _ => True) (l := l) (Fc.pre (xs := [ce0, ce1, ce2, ce3, ce4, ce5, ce6, .slice av vn kv, .slice aw wn kw, ce9, .slice al l.length kl, ce11, ce12, ce13, ce14, ce15, ce16, ce17, ce18, ce19, ce20]) (ys := []) (by simp) (H.viewF 0 rfl)) (H.viewR 1 rfl) (by first | assumption | (intro e he; cases he))) ?_
 rintro _ _ a rfl
 have H := H.ext a
 refine uF 1 ?_
 refine uR 5 [.c [2, 0], .c [3]] ?_
 refine qG (sq 0 6) ?_
 refine uP 4 ?_
 refine uV 28 7 (H.fc 0 rfl) ?_
 refine uW 28 0 #[.slice av vn kv, .slice aw wn kw] H 0 rfl ?_
 intro _ H
 refine uF 0 ?_
 refine qRB (.agg #[.slice av vn kv, .slice aw wn kw]) Tryz.func32 (v1 (.cell 2 28) (vC (H.cells 0 rfl))) ?_
 exact ⟨_, rfl, H.done, rfl⟩
end Go.Proofs.YtkjkmogipidkiaaGreat
