import Derived.Test.YtppcdmbkgficiaaSBxA
import Derived.Test.YtppcdmbkgficiaaSE5
namespace Go.Proofs.Ytppcdmbkgficiaa
open Go.BX
theorem enc_allE {xs : List (BitVec 8)} {k n : Nat} : ∀ d ∈ enc xs k n, d.length = lenOf xs.length k := by
 intro d hd
 unfold enc at hd
 rcases List.mem_append.1 hd with h | h
 · exact dataOf_all _ _ _ d h
 · obtain ⟨j, _, rfl⟩ := List.mem_map.1 h
   exact mixAll_len List.length_replicate (dataOf_all _ _ _)
def okS (size k n : Int) : Prop := 0 ≤ size ∧ size ≤ 65536 ∧ 1 ≤ k ∧ k ≤ n ∧ n ≤ 255
instance (size k n : Int) : Decidable (okS size k n) := by
 unfold okS
 infer_instance
def encG (xs : List (BitVec 8)) (k n : Int) : List (List (BitVec 8)) := if okS (xs.length : Int) k n then enc xs k.toNat n.toNat else []
def encC (xs : List (BitVec 8)) (k n : Int) : Int := if okS (xs.length : Int) k n then 0 else 2
def okL4 (size k : Int) : Prop := 0 ≤ size ∧ size ≤ 65536 ∧ 1 ≤ k ∧ k ≤ 255
instance (size k : Int) : Decidable (okL4 size k) := by
 unfold okL4
 infer_instance
theorem toNil {α : Type} {sh : Shape α} {P : Program} {f : Nat} {args : Array Value} {S : Nat → Prop} {w : World} {x : Int} (hc : Calls P f args w (Ret fun v w' => Ext w w' ∧ v = .tuple #[.slice none 0 0, .I x])) {L : List α} (hL : L = []) :
 Calls P f args w (Ret fun v w' => Ext w w' ∧ ∃ (a : Option Addr) (c : Nat), v = .tuple #[.slice a L.length c, .I x] ∧ sh.slice.rep (Nw S w) w' [.slice a L.length c] L) :=
 hc.mono fun e W' ⟨v, he, hE, hv⟩ => ⟨v, he, hE, none, 0, by rw [hv, hL]; rfl, by rw [hL]; exact Shape.slice_nil⟩
theorem encR_gen {S : Nat → Prop} {w : World} {xs : List (BitVec 8)} {a : Option Addr} {c : Nat} (k n : Int) (h : SB.rep S w [.slice a xs.length c] xs) :
 Calls Try.prog 34 #[.slice a xs.length c, .I k, .I n] w (Ret fun v w' => Ext w w' ∧ ∃ (a' : Option Addr) (c' : Nat), v = .tuple #[.slice a' (encG xs k n).length c', .I (encC xs k n)] ∧ (Shape.slice SB).rep (Nw S w) w' [.slice a' (encG xs k n).length c'] (encG xs k n)) := by
 by_cases hb : okS (xs.length : Int) k n
 · obtain ⟨e, f, g, i, _⟩ := id hb
   obtain ⟨k, rfl⟩ : ∃ m : Nat, k = (m : Int) := ⟨k.toNat, by omega⟩
   obtain ⟨n, rfl⟩ : ∃ m : Nat, n = (m : Int) := ⟨n.toNat, by omega⟩
   have b : encG xs k n = enc xs k n := if_pos hb
   have d : encC xs k n = 0 := if_pos hb
   rw [b, d]
   exact r4enc_ok k n h (by omega) (by omega) (by omega) (by omega)
 have b : encG xs k n = [] := if_neg hb
 have d : encC xs k n = 2 := if_neg hb
 rw [d]
 · by_cases hL : okL4 (xs.length : Int) k
   · obtain ⟨e, f, g, i⟩ := id hL
     obtain ⟨k, rfl⟩ : ∃ m : Nat, k = (m : Int) := ⟨k.toNat, by omega⟩
     exact toNil (r4enc_n k n h (by omega) (by omega) (by omega) (fun q => hb ⟨e, f, g, q.1, q.2⟩)) b
   · exact toNil (r4enc_len k n h hL) b
theorem rows02_eq {S : Nat → Prop} {w : World} {ms : List (List (BitVec 8))} {a b : Option Addr} {c d : Nat} (h : (Shape.slice SB).rep S w [.slice a ms.length c] ms) (h2 : (Shape.slice SB).rep S w [.slice b ms.length d] ms) :
 Calls Try.prog 37 #[.slice a ms.length c, .slice b ms.length d] w (Ret fun v w' => Ext w w' ∧ v = .bool true) := by
 have hxl := Shape.slice_len h
 refine uS1 Try.func37 ?_
 have H := Hp.startF (.rp h (.rp h2 .nil))
 refine uR 5 [.c [1, 0, 1], .c [2]] ?_
 refine qN ((ms.length : Nat) : Int) ((ms.length : Nat) : Int) (fun n => ?_) (fun n => ?_)
 ·
  exact absurd rfl n
 ·
  refine uR 5 [.c [2, 0, 1, 0], .b 0, .c [3]] ?_
  refine uL (α := Nat) (g := 37) (p := [2, 0, 1, 0, 0]) (fun i => [(0, .slice a ms.length c), (1, .slice b ms.length d), (5, .I i)]) (fun i w' => Hp w S [] [] [] [Rp (Shape.slice SB) [.slice a ms.length c] ms, Rp (Shape.slice SB) [.slice b ms.length d] ms] w' ∧ i ≤ ms.length) (fun i => ms.length - i) 0 ⟨H, Nat.zero_le _⟩ ?_
  rintro i o ⟨H, _⟩ e
  refine uR 3 [.c [2, 0, 1, 0, 0, 0, 1], .c [2, 0, 1, 0, 0, 1], .l [2, 0, 1, 0, 0], .b 0, .c [3]] ?_
  refine qD (((i : Int) : Int) < ((ms.length : Nat) : Int)) (fun r => ?_) (fun r => ?_)
  ·
   refine uR 4 [.c [2, 0, 1, 0, 0, 1, 0, 0, 0], .c [2, 0, 1, 0, 0, 1, 0, 0, 1], .b 1, .c [2, 0, 1, 0, 0, 2], .l [2, 0, 1, 0, 0], .b 0, .c [3]] ?_
   refine WK.draw1 10 [(0, .qui), (1, .qui), (2, .qui), (3, .qui), (4, .qui), (5, .qui), (6, .qui), (7, .qui), (8, .chn), (9, .qui)] [(0, .qui), (1, .qui), (2, .qui), (3, .qui), (4, .qui), (5, .qui), (6, .qui), (7, .qui), (8, .chn), (9, .qui)] Try_mixed (by as_aux_lemma => kernel_rfl) (by as_aux_lemma => kernel_rfl) (by as_aux_lemma => kernel_rfl) ?_
   have H := H.draw
   generalize ({ o with drawn := o.drawn + 1 } : World) = s at H ⊢
   refine uP 2 ?_
   have q : i < ms.length := by omega
   refine uX 29 (i : Int) H 0 rfl i (by omega) (List.getElem?_eq_getElem q) ?_
   intro _ _ _ f H
   obtain ⟨_, _, rfl⟩ := Shape.slice_form' f
   have H := H.addR f
   refine uV 23 0 (H.fc 1 rfl) ?_
   refine uP 2 ?_
   have k : i < ms.length := by omega
   refine uX 29 (i : Int) H 3 rfl i (by omega) (List.getElem?_eq_getElem k) ?_
   intro _ _ _ j H
   obtain ⟨_, _, rfl⟩ := Shape.slice_form' j
   have H := H.addR j
   refine uV 23 0 (H.fc 1 rfl) ?_
   refine uK (same01_spec (xs := ms[i]) (ys := ms[i]) (H.rp 2 rfl) (H.rp 0 rfl) (rfl)) ?_
   rintro _ _ m rfl
   have H := H.ext m
   refine uF 1 ?_
   refine uR 3 [.c [2, 0, 1, 0, 0, 2], .l [2, 0, 1, 0, 0], .b 0, .c [3]] ?_
   refine qG (sq 0 3) ?_
   refine uP 1 ?_
   refine uI ((i : Int) + 1) ?_
   refine uF 1 ?_
   have H := H.pick [4, 5] rfl
   exact uB (e (i + 1) _ ⟨H, by omega⟩ (by first | omega | (simp only []; omega)))
  ·
   refine uR 3 [.c [4]] ?_
   refine qT (.bool true) Try.func37 ?_
   exact ⟨_, rfl, H.done, rfl⟩
theorem heads04_eq {S : Nat → Prop} {w : World} {ms : List Hdr} {a b : Option Addr} {c d : Nat} (h : (Shape.slice hdrS).rep S w [.slice a ms.length c] ms) (h2 : (Shape.slice hdrS).rep S w [.slice b ms.length d] ms) :
 Calls Try.prog 40 #[.slice a ms.length c, .slice b ms.length d] w (Ret fun v w' => Ext w w' ∧ v = .bool true) := by
 have hxl := Shape.slice_len h
 refine uS1 Try.func40 ?_
 have H := Hp.startF (.rp h (.rp h2 .nil))
 refine uR 5 [.c [1, 0, 1], .c [2]] ?_
 refine qN ((ms.length : Nat) : Int) ((ms.length : Nat) : Int) (fun q => ?_) (fun q => ?_)
 ·
  exact absurd rfl q
 ·
  refine uR 5 [.c [2, 0, 1, 0], .b 0, .c [3]] ?_
  refine uL (α := Nat) (g := 40) (p := [2, 0, 1, 0, 0]) (fun i => [(0, .slice a ms.length c), (1, .slice b ms.length d), (5, .I i)]) (fun i w' => Hp w S [] [] [] [Rp (Shape.slice hdrS) [.slice a ms.length c] ms, Rp (Shape.slice hdrS) [.slice b ms.length d] ms] w' ∧ i ≤ ms.length) (fun i => ms.length - i) 0 ⟨H, Nat.zero_le _⟩ ?_
  rintro i s ⟨H, _⟩ f
  refine uR 3 [.c [2, 0, 1, 0, 0, 0, 1], .c [2, 0, 1, 0, 0, 1], .l [2, 0, 1, 0, 0], .b 0, .c [3]] ?_
  refine qD (((i : Int) : Int) < ((ms.length : Nat) : Int)) (fun u => ?_) (fun u => ?_)
  ·
   refine uR 4 [.c [2, 0, 1, 0, 0, 1, 0, 0, 0], .c [2, 0, 1, 0, 0, 1, 0, 0, 1], .b 1, .c [2, 0, 1, 0, 0, 2], .l [2, 0, 1, 0, 0], .b 0, .c [3]] ?_
   refine WK.draw1 9 (qs [0, 1, 2, 3, 4, 5, 6, 7, 8]) (qs [0, 1, 2, 3, 4, 5, 6, 7, 8]) Try_mixed (by as_aux_lemma => kernel_rfl) (by as_aux_lemma => kernel_rfl) (by as_aux_lemma => kernel_rfl) ?_
   have H := H.draw
   generalize ({ s with drawn := s.drawn + 1 } : World) = x at H ⊢
   refine uP 2 ?_
   have t : i < ms.length := by omega
   refine uX 28 (i : Int) H 0 rfl i (by omega) (List.getElem?_eq_getElem t) ?_
   intro _ _ _ j H
   obtain ⟨_, rfl, k, _, _, _⟩ := hdr_open j
   obtain ⟨rfl, _, _, _⟩ := cid_open k
   refine uV 53 0 (H.fc 0 rfl) ?_
   refine uP 2 ?_
   have m : i < ms.length := by omega
   refine uX 28 (i : Int) H 2 rfl i (by omega) (List.getElem?_eq_getElem m) ?_
   intro _ _ _ n H
   obtain ⟨_, rfl, o, _, _, _⟩ := hdr_open n
   obtain ⟨rfl, _, _, _⟩ := cid_open o
   refine uV 53 0 (H.fc 0 rfl) ?_
   refine RW.neA (κ := .qui) (d := some 25) (r := []) (T := 53) (xs := #[.int .u64 (((ms[i]).id).version), .I (((ms[i]).id).index), .int .u64 (((ms[i]).id).epoch), .I ((ms[i]).kk), .I ((ms[i]).nn), .I ((ms[i]).size), .int .u32 ((((ms[i]).sum).toNat : Nat) : Int)]) (ys := #[.int .u64 (((ms[i]).id).version), .I (((ms[i]).id).index), .int .u64 (((ms[i]).id).epoch), .I ((ms[i]).kk), .I ((ms[i]).nn), .I ((ms[i]).size), .int .u32 ((((ms[i]).sum).toNat : Nat) : Int)]) (ox := (.tmp 20)) (oy := (.tmp 24)) [((((ms[i]).id).version : Int) == ((ms[i]).id).version), ((((ms[i]).id).index : Int) == ((ms[i]).id).index), ((((ms[i]).id).epoch : Int) == ((ms[i]).id).epoch), (((ms[i]).kk : Int) == (ms[i]).kk), (((ms[i]).nn : Int) == (ms[i]).nn), (((ms[i]).size : Int) == (ms[i]).size), ((((((ms[i]).sum).toNat : Nat) : Int) : Int) == ((((ms[i]).sum).toNat : Nat) : Int))] (by as_aux_lemma => kernel_rfl) (by as_aux_lemma => kernel_rfl) (by as_aux_lemma => kernel_rfl) ?_
   refine uF 0 ?_
   refine qC (!([((((ms[i]).id).version : Int) == ((ms[i]).id).version), ((((ms[i]).id).index : Int) == ((ms[i]).id).index), ((((ms[i]).id).epoch : Int) == ((ms[i]).id).epoch), (((ms[i]).kk : Int) == (ms[i]).kk), (((ms[i]).nn : Int) == (ms[i]).nn), (((ms[i]).size : Int) == (ms[i]).size), ((((((ms[i]).sum).toNat : Nat) : Int) : Int) == ((((ms[i]).sum).toNat : Nat) : Int))].all id)) (fun e => ?_) (fun e => ?_)
   ·
    replace e : (([((((ms[i]).id).version : Int) == ((ms[i]).id).version), ((((ms[i]).id).index : Int) == ((ms[i]).id).index), ((((ms[i]).id).epoch : Int) == ((ms[i]).id).epoch), (((ms[i]).kk : Int) == (ms[i]).kk), (((ms[i]).nn : Int) == (ms[i]).nn), (((ms[i]).size : Int) == (ms[i]).size), ((((((ms[i]).sum).toNat : Nat) : Int) : Int) == ((((ms[i]).sum).toNat : Nat) : Int))].all id)) = false := by revert e; cases (([((((ms[i]).id).version : Int) == ((ms[i]).id).version), ((((ms[i]).id).index : Int) == ((ms[i]).id).index), ((((ms[i]).id).epoch : Int) == ((ms[i]).id).epoch), (((ms[i]).kk : Int) == (ms[i]).kk), (((ms[i]).nn : Int) == (ms[i]).nn), (((ms[i]).size : Int) == (ms[i]).size), ((((((ms[i]).sum).toNat : Nat) : Int) : Int) == ((((ms[i]).sum).toNat : Nat) : Int))].all id)) <;> simp
    simp at e
   ·
    replace e : (([((((ms[i]).id).version : Int) == ((ms[i]).id).version), ((((ms[i]).id).index : Int) == ((ms[i]).id).index), ((((ms[i]).id).epoch : Int) == ((ms[i]).id).epoch), (((ms[i]).kk : Int) == (ms[i]).kk), (((ms[i]).nn : Int) == (ms[i]).nn), (((ms[i]).size : Int) == (ms[i]).size), ((((((ms[i]).sum).toNat : Nat) : Int) : Int) == ((((ms[i]).sum).toNat : Nat) : Int))].all id)) = true := by revert e; cases (([((((ms[i]).id).version : Int) == ((ms[i]).id).version), ((((ms[i]).id).index : Int) == ((ms[i]).id).index), ((((ms[i]).id).epoch : Int) == ((ms[i]).id).epoch), (((ms[i]).kk : Int) == (ms[i]).kk), (((ms[i]).nn : Int) == (ms[i]).nn), (((ms[i]).size : Int) == (ms[i]).size), ((((((ms[i]).sum).toNat : Nat) : Int) : Int) == ((((ms[i]).sum).toNat : Nat) : Int))].all id)) <;> simp
    refine uR 2 [.c [2, 0, 1, 0, 0, 2], .l [2, 0, 1, 0, 0], .b 0, .c [3]] ?_
    refine qG (sq 0 3) ?_
    refine uP 1 ?_
    refine uI ((i : Int) + 1) ?_
    refine uF 1 ?_
    have H := H.pick [2, 3] rfl
    exact uB (f (i + 1) _ ⟨H, by omega⟩ (by first | omega | (simp only []; omega)))
  ·
   refine uR 3 [.c [4]] ?_
   refine qT (.bool true) Try.func40 ?_
   exact ⟨_, rfl, H.done, rfl⟩
end Go.Proofs.Ytppcdmbkgficiaa
