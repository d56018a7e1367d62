import Derived.Test.YtkjkmogipidkiaaGreatSBxA
import Derived.Test.YtkjkmogipidkiaaGreatSC5
import Derived.Test.YtkjkmogipidkiaaGreatSA1
namespace Go.Proofs.YtkjkmogipidkiaaGreat
open Go.BX
set_option maxHeartbeats 4000000 in
theorem ints_eq {S : Nat → Prop} {w : World} {xs : List Int} {a b : Option Addr} {c d : Nat} (h : (Shape.slice (Shape.int .i64)).rep S w [.slice a xs.length c] xs) (h2 : (Shape.slice (Shape.int .i64)).rep S w [.slice b xs.length d] xs) :
 Calls Tryz.prog 33 #[.slice a xs.length c, .slice b xs.length d] w (Ret fun v w' => Ext w w' ∧ v = .bool true) := by
 have hlen := Shape.slice_len h
 refine uS1 Tryz.func33 ?_
 have H := Hp.startF (.rp h (.rp h2 .nil))
 refine uR 5 [.c [1, 0, 1], .c [2]] ?_
 refine qN ((xs.length : Nat) : Int) ((xs.length : Nat) : Int) (fun n => ?_) (fun n => ?_)
 ·
  exact absurd rfl n
 ·
  refine uR 5 [.c [2, 0, 1, 0], .b 0, .c [3]] ?_
  refine uL (α := Nat) (g := 33) (p := [2, 0, 1, 0, 0]) (fun k => [(0, .slice a xs.length c), (1, .slice b xs.length d), (5, .I k)]) (fun k w' => Hp w S [] [] [] [Rp (Shape.slice (Shape.int .i64)) [.slice a xs.length c] xs, Rp (Shape.slice (Shape.int .i64)) [.slice b xs.length d] xs] w' ∧ k ≤ xs.length) (fun k => xs.length - k) 0 ⟨H, Nat.zero_le _⟩ ?_
  rintro k o ⟨H, _⟩ e
  refine uR 3 [.c [2, 0, 1, 0, 0, 0, 1], .c [2, 0, 1, 0, 0, 1], .l [2, 0, 1, 0, 0], .b 0, .c [3]] ?_
  refine qD (((k : Int) : Int) < ((xs.length : Nat) : Int)) (fun r => ?_) (fun r => ?_)
  ·
   refine uR 4 [.c [2, 0, 1, 0, 0, 1, 0, 0, 0], .c [2, 0, 1, 0, 0, 1, 0, 0, 1], .b 1, .c [2, 0, 1, 0, 0, 2], .l [2, 0, 1, 0, 0], .b 0, .c [3]] ?_
   refine WK.draw1 9 (qs [0, 1, 2, 3, 4, 5, 6, 7, 8]) (qs [0, 1, 2, 3, 4, 5, 6, 7, 8]) Tryz_mixed (by as_aux_lemma => kernel_rfl) (by as_aux_lemma => kernel_rfl) (by as_aux_lemma => kernel_rfl) ?_
   have H := H.draw
   generalize ({ o with drawn := o.drawn + 1 } : World) = u at H ⊢
   refine uP 2 ?_
   have q : k < xs.length := by omega
   refine uX 26 (k : Int) H 0 rfl k (by omega) (List.getElem?_eq_getElem q) ?_
   intro _ _ _ f H
   have s := Shape.i64_bd f
   obtain ⟨rfl, -⟩ := f
   refine uV 3 0 (H.fc 0 rfl) ?_
   refine uP 2 ?_
   have m : k < xs.length := by omega
   refine uX 26 (k : Int) H 2 rfl k (by omega) (List.getElem?_eq_getElem m) ?_
   intro _ _ _ i H
   have t := Shape.i64_bd i
   obtain ⟨rfl, -⟩ := i
   refine uV 3 0 (H.fc 0 rfl) ?_
   refine uF 1 ?_
   refine qN (xs[k]) (xs[k]) (fun j => ?_) (fun j => ?_)
   ·
    exact absurd rfl j
   ·
    refine uR 2 [.c [2, 0, 1, 0, 0, 2], .l [2, 0, 1, 0, 0], .b 0, .c [3]] ?_
    refine qG (sq 0 3) ?_
    refine uP 1 ?_
    refine uI ((k : Int) + 1) ?_
    refine uF 1 ?_
    have H := H.pick [2, 3] rfl
    exact uB (e (k + 1) _ ⟨H, by omega⟩ (by first | omega | (simp only []; omega)))
  ·
   refine uR 3 [.c [4]] ?_
   refine qT (.bool true) Tryz.func33 ?_
   exact ⟨_, rfl, H.done, rfl⟩
set_option maxHeartbeats 4000000 in
theorem peers_eq {S : Nat → Prop} {w : World} {xs : List Peer} {a b : Option Addr} {c d : Nat} (h : (Shape.slice peerS).rep S w [.slice a xs.length c] xs) (h2 : (Shape.slice peerS).rep S w [.slice b xs.length d] xs) :
 Calls Tryz.prog 34 #[.slice a xs.length c, .slice b xs.length d] w (Ret fun v w' => Ext w w' ∧ v = .bool true) := by
 have hlen := Shape.slice_len h
 refine uS1 Tryz.func34 ?_
 have H := Hp.startF (.rp h (.rp h2 .nil))
 refine uR 5 [.c [1, 0, 1], .c [2]] ?_
 refine qN ((xs.length : Nat) : Int) ((xs.length : Nat) : Int) (fun n => ?_) (fun n => ?_)
 ·
  exact absurd rfl n
 ·
  refine uR 5 [.c [2, 0, 1, 0], .b 0, .c [3]] ?_
  refine uL (α := Nat) (g := 34) (p := [2, 0, 1, 0, 0]) (fun k => [(0, .slice a xs.length c), (1, .slice b xs.length d), (5, .I k)]) (fun k w' => Hp w S [] [] [] [Rp (Shape.slice peerS) [.slice a xs.length c] xs, Rp (Shape.slice peerS) [.slice b xs.length d] xs] w' ∧ k ≤ xs.length) (fun k => xs.length - k) 0 ⟨H, Nat.zero_le _⟩ ?_
  rintro k o ⟨H, _⟩ f
  refine uR 3 [.c [2, 0, 1, 0, 0, 0, 1], .c [2, 0, 1, 0, 0, 1], .l [2, 0, 1, 0, 0], .b 0, .c [3]] ?_
  refine qD (((k : Int) : Int) < ((xs.length : Nat) : Int)) (fun s => ?_) (fun s => ?_)
  ·
   refine uR 4 [.c [2, 0, 1, 0, 0, 1, 0, 0, 0], .c [2, 0, 1, 0, 0, 1, 0, 0, 1], .b 1, .c [2, 0, 1, 0, 0, 2], .l [2, 0, 1, 0, 0], .b 0, .c [3]] ?_
   refine WK.draw1 9 (qs [0, 1, 2, 3, 4, 5, 6, 7, 8]) (qs [0, 1, 2, 3, 4, 5, 6, 7, 8]) Tryz_mixed (by as_aux_lemma => kernel_rfl) (by as_aux_lemma => kernel_rfl) (by as_aux_lemma => kernel_rfl) ?_
   have H := H.draw
   generalize ({ o with drawn := o.drawn + 1 } : World) = t at H ⊢
   refine uP 2 ?_
   have q : k < xs.length := by omega
   refine uX 32 (k : Int) H 0 rfl k (by omega) (List.getElem?_eq_getElem q) ?_
   intro _ _ _ i H
   obtain ⟨rfl, _, _, _⟩ := peer_open i
   refine uV 123 0 (H.fc 0 rfl) ?_
   refine uP 2 ?_
   have j : k < xs.length := by omega
   refine uX 32 (k : Int) H 2 rfl k (by omega) (List.getElem?_eq_getElem j) ?_
   intro _ _ _ m H
   obtain ⟨rfl, _, _, _⟩ := peer_open m
   refine uV 123 0 (H.fc 0 rfl) ?_
   refine RW.neA (κ := .qui) (d := some 25) (r := []) (T := 123) (xs := #[.I ((xs[k]).id), .int .u64 ((xs[k]).next), .int .u64 ((xs[k]).mat), .bool ((xs[k]).heard)]) (ys := #[.I ((xs[k]).id), .int .u64 ((xs[k]).next), .int .u64 ((xs[k]).mat), .bool ((xs[k]).heard)]) (ox := (.tmp 20)) (oy := (.tmp 24)) [(((xs[k]).id : Int) == (xs[k]).id), (((xs[k]).next : Int) == (xs[k]).next), (((xs[k]).mat : Int) == (xs[k]).mat), (((xs[k]).heard) == ((xs[k]).heard))] (by as_aux_lemma => kernel_rfl) (by as_aux_lemma => kernel_rfl) (by as_aux_lemma => kernel_rfl) ?_
   refine uF 0 ?_
   refine qC (!([(((xs[k]).id : Int) == (xs[k]).id), (((xs[k]).next : Int) == (xs[k]).next), (((xs[k]).mat : Int) == (xs[k]).mat), (((xs[k]).heard) == ((xs[k]).heard))].all id)) (fun e => ?_) (fun e => ?_)
   ·
    replace e : (([(((xs[k]).id : Int) == (xs[k]).id), (((xs[k]).next : Int) == (xs[k]).next), (((xs[k]).mat : Int) == (xs[k]).mat), (((xs[k]).heard) == ((xs[k]).heard))].all id)) = false := by revert e; cases (([(((xs[k]).id : Int) == (xs[k]).id), (((xs[k]).next : Int) == (xs[k]).next), (((xs[k]).mat : Int) == (xs[k]).mat), (((xs[k]).heard) == ((xs[k]).heard))].all id)) <;> simp
    simp at e
   ·
    replace e : (([(((xs[k]).id : Int) == (xs[k]).id), (((xs[k]).next : Int) == (xs[k]).next), (((xs[k]).mat : Int) == (xs[k]).mat), (((xs[k]).heard) == ((xs[k]).heard))].all id)) = true := by revert e; cases (([(((xs[k]).id : Int) == (xs[k]).id), (((xs[k]).next : Int) == (xs[k]).next), (((xs[k]).mat : Int) == (xs[k]).mat), (((xs[k]).heard) == ((xs[k]).heard))].all id)) <;> simp
    refine uR 2 [.c [2, 0, 1, 0, 0, 2], .l [2, 0, 1, 0, 0], .b 0, .c [3]] ?_
    refine qG (sq 0 3) ?_
    refine uP 1 ?_
    refine uI ((k : Int) + 1) ?_
    refine uF 1 ?_
    have H := H.pick [2, 3] rfl
    exact uB (f (k + 1) _ ⟨H, by omega⟩ (by first | omega | (simp only []; omega)))
  ·
   refine uR 3 [.c [4]] ?_
   refine qT (.bool true) Tryz.func34 ?_
   exact ⟨_, rfl, H.done, rfl⟩
set_option maxHeartbeats 4000000 in
theorem readings_eq {S : Nat → Prop} {w : World} {xs : List Rdg} {a b : Option Addr} {c d : Nat} (h : (Shape.slice rdgS).rep S w [.slice a xs.length c] xs) (h2 : (Shape.slice rdgS).rep S w [.slice b xs.length d] xs) :
 Calls Tryz.prog 35 #[.slice a xs.length c, .slice b xs.length d] w (Ret fun v w' => Ext w w' ∧ v = .bool true) := by
 have hlen := Shape.slice_len h
 refine uS1 Tryz.func35 ?_
 have H := Hp.startF (.rp h (.rp h2 .nil))
 refine uR 5 [.c [1, 0, 1], .c [2]] ?_
 refine qN ((xs.length : Nat) : Int) ((xs.length : Nat) : Int) (fun P => ?_) (fun P => ?_)
 ·
  exact absurd rfl P
 ·
  refine uR 5 [.c [2, 0, 1, 0], .b 0, .c [3]] ?_
  refine uL (α := Nat) (g := 35) (p := [2, 0, 1, 0, 0]) (fun k => [(0, .slice a xs.length c), (1, .slice b xs.length d), (5, .I k)]) (fun k w' => Hp w S [] [] [] [Rp (Shape.slice rdgS) [.slice a xs.length c] xs, Rp (Shape.slice rdgS) [.slice b xs.length d] xs] w' ∧ k ≤ xs.length) (fun k => xs.length - k) 0 ⟨H, Nat.zero_le _⟩ ?_
  rintro k Q ⟨H, _⟩ e
  refine uR 3 [.c [2, 0, 1, 0, 0, 0, 1], .c [2, 0, 1, 0, 0, 1], .l [2, 0, 1, 0, 0], .b 0, .c [3]] ?_
  refine qD (((k : Int) : Int) < ((xs.length : Nat) : Int)) (fun V => ?_) (fun V => ?_)
  ·
   refine uR 4 [.c [2, 0, 1, 0, 0, 1, 0, 0, 0], .c [2, 0, 1, 0, 0, 1, 0, 0, 1], .b 1, .c [2, 0, 1, 0, 0, 2], .l [2, 0, 1, 0, 0], .b 0, .c [3]] ?_
   refine WK.draw1 51 [(0, .qui), (1, .qui), (2, .qui), (3, .qui), (4, .qui), (5, .qui), (6, .qui), (7, .qui), (8, .qui), (9, .qui), (10, .qui), (11, .qui), (12, .qui), (13, .qui), (14, .qui), (15, .qui), (16, .qui), (17, .qui), (18, .qui), (19, .qui), (20, .qui), (21, .qui), (22, .qui), (23, .qui), (24, .qui), (25, .qui), (26, .qui), (27, .qui), (28, .qui), (29, .qui), (30, .qui), (31, .qui), (32, .qui), (33, .qui), (34, .qui), (35, .qui), (36, .qui), (37, .qui), (38, .qui), (39, .qui), (40, .qui), (41, .qui), (42, .qui), (43, .qui), (44, .qui), (45, .qui), (46, .qui), (47, .qui), (48, .chn), (49, .qui), (50, .qui)] [(0, .qui), (1, .qui), (2, .qui), (3, .qui), (4, .qui), (5, .qui), (6, .qui), (7, .qui), (8, .qui), (9, .qui), (10, .qui), (11, .qui), (12, .qui), (13, .qui), (14, .qui), (15, .qui), (16, .qui), (17, .qui), (18, .qui), (19, .qui), (20, .qui), (21, .qui), (22, .qui), (23, .qui), (24, .qui), (25, .qui), (26, .qui), (27, .qui), (28, .qui), (29, .qui), (30, .qui), (31, .qui), (32, .qui), (33, .qui), (34, .qui), (35, .qui), (36, .qui), (37, .qui), (38, .qui), (39, .qui), (40, .qui), (41, .qui), (42, .qui), (43, .qui), (44, .qui), (45, .qui), (46, .qui), (47, .qui), (48, .chn), (49, .qui), (50, .qui)] Tryz_mixed (by as_aux_lemma => kernel_rfl) (by as_aux_lemma => kernel_rfl) (by as_aux_lemma => kernel_rfl) ?_
   have H := H.draw
   generalize ({ Q with drawn := Q.drawn + 1 } : World) = W at H ⊢
   refine uP 2 ?_
   have R : k < xs.length := by omega
   refine uX 33 (k : Int) H 0 rfl k (by omega) (List.getElem?_eq_getElem R) ?_
   intro _ _ _ m H
   obtain ⟨_, _, rfl, _, _, _, n⟩ := rdg_open m
   have H := H.addR n
   refine uP 1 ?_
   refine uV 25 0 (H.fc 1 rfl) ?_
   refine uP 2 ?_
   have o : k < xs.length := by omega
   refine uX 33 (k : Int) H 3 rfl k (by omega) (List.getElem?_eq_getElem o) ?_
   intro _ _ _ q H
   obtain ⟨_, _, rfl, _, _, _, r⟩ := rdg_open q
   have H := H.addR r
   refine uP 1 ?_
   refine uV 25 0 (H.fc 1 rfl) ?_
   refine uP 2 ?_
   refine uN 28 ((xs[k]).id) ((xs[k]).id) (fun f => ?_) (fun f => ?_)
   ·
    exact absurd rfl f
   ·
    refine uP 2 ?_
    have s : k < xs.length := by omega
    refine uX 33 (k : Int) H 4 rfl k (by omega) (List.getElem?_eq_getElem s) ?_
    intro _ _ _ t H
    obtain ⟨_, _, rfl, _, _, _, u⟩ := rdg_open t
    have H := H.addR u
    refine uP 1 ?_
    refine uV 25 1 (H.fc 1 rfl) ?_
    refine uP 2 ?_
    have x : k < xs.length := by omega
    refine uX 33 (k : Int) H 7 rfl k (by omega) (List.getElem?_eq_getElem x) ?_
    intro T U _ y H
    obtain ⟨_, _, rfl, _, _, _, z⟩ := rdg_open y
    have H := H.addR z
    refine qP 1 [(21, .qui), (22, .qui), (23, .qui), (24, .qui), (25, .qui), (26, .qui), (27, .qui), (28, .qui), (29, .qui), (30, .qui), (31, .qui), (32, .qui), (33, .qui), (34, .qui), (35, .qui), (36, .qui), (37, .qui), (38, .qui), (39, .qui), (40, .qui), (41, .qui), (42, .qui), (43, .qui), (44, .qui), (45, .qui), (46, .qui), (47, .qui), (48, .chn), (49, .qui), (50, .qui)] [(0, .slice a xs.length c), (1, .slice b xs.length d), (5, .I k), (28, .bool false), (33, .int .u64 ((xs[k]).index)), (37, .pointer (some ⟨T, U + 1, none⟩))] ?_
    refine uV 25 1 (H.fc 1 rfl) ?_
    refine uP 3 ?_
    refine uN 41 ((xs[k]).index) ((xs[k]).index) (fun i => ?_) (fun i => ?_)
    ·
     exact absurd rfl i
    ·
     refine uP 2 ?_
     have A : k < xs.length := by omega
     refine uX 33 (k : Int) H 8 rfl k (by omega) (List.getElem?_eq_getElem A) ?_
     intro _ _ _ B H
     obtain ⟨_, _, rfl, _, _, _, C⟩ := rdg_open B
     have H := H.addR C
     refine uP 1 ?_
     refine uV 25 2 (H.fc 1 rfl) ?_
     refine uP 2 ?_
     have D : k < xs.length := by omega
     refine uX 33 (k : Int) H 11 rfl k (by omega) (List.getElem?_eq_getElem D) ?_
     intro _ _ _ E H
     obtain ⟨_, _, rfl, _, _, _, F⟩ := rdg_open E
     have H := H.addR F
     refine uP 1 ?_
     refine uV 25 2 (H.fc 1 rfl) ?_
     refine uP 3 ?_
     refine uN 54 ((xs[k]).ctx) ((xs[k]).ctx) (fun j => ?_) (fun j => ?_)
     ·
      exact absurd rfl j
     ·
      refine uP 2 ?_
      have G : k < xs.length := by omega
      refine uX 33 (k : Int) H 12 rfl k (by omega) (List.getElem?_eq_getElem G) ?_
      intro _ _ _ J H
      obtain ⟨_, _, rfl, _, _, _, K⟩ := rdg_open J
      have H := H.addR K
      refine uP 1 ?_
      refine uV 26 3 (H.fc 1 rfl) ?_
      refine uP 2 ?_
      have L : k < xs.length := by omega
      refine uX 33 (k : Int) H 15 rfl k (by omega) (List.getElem?_eq_getElem L) ?_
      intro _ _ _ M H
      obtain ⟨_, _, rfl, _, _, _, N⟩ := rdg_open M
      have H := H.addR N
      refine uP 1 ?_
      refine uV 26 3 (H.fc 1 rfl) ?_
      refine uK (ints_eq (xs := (xs[k]).acks) (H.rp 2 rfl) (H.rp 0 rfl)) ?_
      rintro _ _ O rfl
      have H := H.ext O
      refine qF 2 [(0, .slice a xs.length c), (1, .slice b xs.length d), (5, .I k), (67, .bool false)] ?_
      refine uR 3 [.c [2, 0, 1, 0, 0, 2], .l [2, 0, 1, 0, 0], .b 0, .c [3]] ?_
      refine qG (sq 0 3) ?_
      refine uP 1 ?_
      refine uI ((k : Int) + 1) ?_
      refine uF 1 ?_
      have H := H.pick [16, 17] rfl
      exact uB (e (k + 1) _ ⟨H, by omega⟩ (by first | omega | (simp only []; omega)))
  ·
   refine uR 3 [.c [4]] ?_
   refine qT (.bool true) Tryz.func35 ?_
   exact ⟨_, rfl, H.done, rfl⟩
set_option maxHeartbeats 4000000 in
theorem entries_eq {S : Nat → Prop} {w : World} {xs : List Ent} {a b : Option Addr} {c d : Nat} (h : (Shape.slice entS).rep S w [.slice a xs.length c] xs) (h2 : (Shape.slice entS).rep S w [.slice b xs.length d] xs) (hz : ∀ e ∈ xs, szE e) :
 Calls Tryz.prog 46 #[.slice a xs.length c, .slice b xs.length d] w (Ret fun v w' => Ext w w' ∧ v = .bool true) := by
 have hlen := Shape.slice_len h
 refine uS1 Tryz.func46 ?_
 have H := Hp.startF (.rp h (.rp h2 .nil))
 refine uR 5 [.c [1, 0, 1], .c [2]] ?_
 refine qN ((xs.length : Nat) : Int) ((xs.length : Nat) : Int) (fun h1 => ?_) (fun h1 => ?_)
 ·
  exact absurd rfl h1
 ·
  refine uR 5 [.c [2, 0, 1, 0], .b 0, .c [3]] ?_
  refine uL (α := Nat) (g := 46) (p := [2, 0, 1, 0, 0]) (fun k => [(0, .slice a xs.length c), (1, .slice b xs.length d), (5, .I k)]) (fun k w' => Hp w S [] [] [] [Rp (Shape.slice entS) [.slice a xs.length c] xs, Rp (Shape.slice entS) [.slice b xs.length d] xs] w' ∧ k ≤ xs.length) (fun k => xs.length - k) 0 ⟨H, Nat.zero_le _⟩ ?_
  rintro k w3 ⟨H, _⟩ o
  refine uR 3 [.c [2, 0, 1, 0, 0, 0, 1], .c [2, 0, 1, 0, 0, 1], .l [2, 0, 1, 0, 0], .b 0, .c [3]] ?_
  refine qD (((k : Int) : Int) < ((xs.length : Nat) : Int)) (fun h4 => ?_) (fun h4 => ?_)
  ·
   refine uR 4 [.c [2, 0, 1, 0, 0, 1, 0, 0, 0], .c [2, 0, 1, 0, 0, 1, 0, 0, 1], .b 1, .c [2, 0, 1, 0, 0, 2], .l [2, 0, 1, 0, 0], .b 0, .c [3]] ?_
   refine WK.draw1 13 [(0, .qui), (1, .qui), (2, .qui), (3, .qui), (6, .qui), (7, .qui), (8, .qui), (9, .qui), (4, .chn), (5, .qui), (10, .chn), (11, .qui), (12, .qui)] [(0, .qui), (1, .qui), (2, .qui), (3, .qui), (6, .qui), (7, .qui), (8, .qui), (9, .qui), (4, .chn), (5, .qui), (10, .chn), (11, .qui), (12, .qui)] Tryz_mixed (by as_aux_lemma => kernel_rfl) (by as_aux_lemma => kernel_rfl) (by as_aux_lemma => kernel_rfl) ?_
   have H := H.draw
   generalize ({ w3 with drawn := w3.drawn + 1 } : World) = w5 at H ⊢
   refine uP 2 ?_
   have a0 : k < xs.length := by omega
   refine uX 30 (k : Int) H 0 rfl k (by omega) (List.getElem?_eq_getElem a0) ?_
   intro b7 o8 _ G H
   obtain ⟨_, _, rfl, _, _, _, J, K⟩ := ent_open G
   obtain ⟨_, _, rfl, _, _, _, _, _, _, _, _, _, L, M⟩ := cmd_open J
   obtain ⟨rfl, _, _, _⟩ := cid_open L
   obtain ⟨i, j, rfl, _, N⟩ := amap_open M
   obtain ⟨q, s, t, u, rfl, O, P⟩ := conf_open K
   have H := H.addR N
   have H := H.addR O
   have H := H.addR P
   refine uV 71 0 (H.fc 3 rfl) ?_
   refine uP 2 ?_
   have Q : k < xs.length := by omega
   refine uX 30 (k : Int) H 5 rfl k (by omega) (List.getElem?_eq_getElem Q) ?_
   intro b0 c0 _ R H
   obtain ⟨_, _, rfl, _, _, _, T, U⟩ := ent_open R
   obtain ⟨_, _, rfl, _, _, _, _, _, _, _, _, _, V, W⟩ := cmd_open T
   obtain ⟨rfl, _, _, _⟩ := cid_open V
   obtain ⟨m, n, rfl, _, X⟩ := amap_open W
   obtain ⟨y, z, A, B, rfl, Y, Z⟩ := conf_open U
   have H := H.addR X
   have H := H.addR Y
   have H := H.addR Z
   refine uV 71 0 (H.fc 3 rfl) ?_
   have H := H.addRp SB [.slice none 0 0] [] Shape.slice_nil
   refine uK (putentry_spec (ys := ([] : List (BitVec 8))) (x := ⟨(xs[k]).index, (xs[k]).term, (xs[k]).kind, ⟨((xs[k]).cmd).kind, ((xs[k]).cmd).client, ((xs[k]).cmd).seq, ((xs[k]).cmd).key, ((xs[k]).cmd).size, ((xs[k]).cmd).sum, ((xs[k]).cmd).version, ((xs[k]).cmd).epoch, ((xs[k]).cmd).group, ((xs[k]).cmd).node, ((xs[k]).cmd).up, (((xs[k]).cmd).id), (((xs[k]).cmd).amap)⟩, ((xs[k]).conf)⟩) (H.rp 0 rfl) (ent_mk u64a u64a i64a (cmd_mk (l0 := [.I (((xs[k]).cmd).kind)]) (y0 := ((xs[k]).cmd).kind) (l1 := [.int .u64 (((xs[k]).cmd).client)]) (y1 := ((xs[k]).cmd).client) (l2 := [.int .u64 (((xs[k]).cmd).seq)]) (y2 := ((xs[k]).cmd).seq) (l3 := [.string (((xs[k]).cmd).key)]) (y3 := ((xs[k]).cmd).key) (l4 := [.I (((xs[k]).cmd).size)]) (y4 := ((xs[k]).cmd).size) (l5 := [.int .u32 (((((xs[k]).cmd).sum).toNat : Nat) : Int)]) (y5 := ((xs[k]).cmd).sum) (l6 := [.int .u64 (((xs[k]).cmd).version)]) (y6 := ((xs[k]).cmd).version) (l7 := [.int .u64 (((xs[k]).cmd).epoch)]) (y7 := ((xs[k]).cmd).epoch) (l8 := [.I (((xs[k]).cmd).group)]) (y8 := ((xs[k]).cmd).group) (l9 := [.I (((xs[k]).cmd).node)]) (y9 := ((xs[k]).cmd).node) (l10 := [.bool (((xs[k]).cmd).up)]) (y10 := ((xs[k]).cmd).up) (l11 := [.int .u64 ((((xs[k]).cmd).id).version), .I ((((xs[k]).cmd).id).index), .int .u64 ((((xs[k]).cmd).id).epoch)]) (y11 := (((xs[k]).cmd).id)) (l12 := [.int .u64 ((((xs[k]).cmd).amap).epoch), .slice i ((((xs[k]).cmd).amap).members.length) j]) (y12 := (((xs[k]).cmd).amap)) i64a u64a u64a ⟨rfl, by first | assumption | (simp [maxLen]; done) | decide⟩ i64a Shape.bv_mk u64a u64a i64a i64a Shape.bool_mk (cid_mk u64a i64a u64a) (amap_mk u64a (H.rp 7 rfl))) (conf_mk (H.rp 6 rfl) (H.rp 5 rfl))) (hz _ (List.getElem_mem (by omega))) (by first | omega | (simp only [List.length_nil]; omega))) ?_
   rintro _ _ - H'
   have H := H.back (M1 := []) (W1 := []) H'
   obtain ⟨C, D, rfl, _, _⟩ := H.ownForm 0 rfl
   have H : Hp w S [] [] [⟨Sb, 5, .slice C ((entE (⟨(xs[k]).index, (xs[k]).term, (xs[k]).kind, ⟨((xs[k]).cmd).kind, ((xs[k]).cmd).client, ((xs[k]).cmd).seq, ((xs[k]).cmd).key, ((xs[k]).cmd).size, ((xs[k]).cmd).sum, ((xs[k]).cmd).version, ((xs[k]).cmd).epoch, ((xs[k]).cmd).group, ((xs[k]).cmd).node, ((xs[k]).cmd).up, (((xs[k]).cmd).id), (((xs[k]).cmd).amap)⟩, ((xs[k]).conf)⟩)).length) D, entE (⟨(xs[k]).index, (xs[k]).term, (xs[k]).kind, ⟨((xs[k]).cmd).kind, ((xs[k]).cmd).client, ((xs[k]).cmd).seq, ((xs[k]).cmd).key, ((xs[k]).cmd).size, ((xs[k]).cmd).sum, ((xs[k]).cmd).version, ((xs[k]).cmd).epoch, ((xs[k]).cmd).group, ((xs[k]).cmd).node, ((xs[k]).cmd).up, (((xs[k]).cmd).id), (((xs[k]).cmd).amap)⟩, ((xs[k]).conf)⟩)⟩] [_, _, _, _, Fc b0 c0 [.int .u64 ((xs[k]).index), .int .u64 ((xs[k]).term), .I ((xs[k]).kind), .I (((xs[k]).cmd).kind), .int .u64 (((xs[k]).cmd).client), .int .u64 (((xs[k]).cmd).seq), .string (((xs[k]).cmd).key), .I (((xs[k]).cmd).size), .int .u32 (((((xs[k]).cmd).sum).toNat : Nat) : Int), .int .u64 (((xs[k]).cmd).version), .int .u64 (((xs[k]).cmd).epoch), .I (((xs[k]).cmd).group), .I (((xs[k]).cmd).node), .bool (((xs[k]).cmd).up), .int .u64 ((((xs[k]).cmd).id).version), .I ((((xs[k]).cmd).id).index), .int .u64 ((((xs[k]).cmd).id).epoch), .int .u64 ((((xs[k]).cmd).amap).epoch), .slice m ((((xs[k]).cmd).amap).members.length) n, .slice y (((xs[k]).conf).voters.length) z, .slice A (((xs[k]).conf).learners.length) B], _, _, _, Fc b7 o8 [.int .u64 ((xs[k]).index), .int .u64 ((xs[k]).term), .I ((xs[k]).kind), .I (((xs[k]).cmd).kind), .int .u64 (((xs[k]).cmd).client), .int .u64 (((xs[k]).cmd).seq), .string (((xs[k]).cmd).key), .I (((xs[k]).cmd).size), .int .u32 (((((xs[k]).cmd).sum).toNat : Nat) : Int), .int .u64 (((xs[k]).cmd).version), .int .u64 (((xs[k]).cmd).epoch), .I (((xs[k]).cmd).group), .I (((xs[k]).cmd).node), .bool (((xs[k]).cmd).up), .int .u64 ((((xs[k]).cmd).id).version), .I ((((xs[k]).cmd).id).index), .int .u64 ((((xs[k]).cmd).id).epoch), .int .u64 ((((xs[k]).cmd).amap).epoch), .slice i ((((xs[k]).cmd).amap).members.length) j, .slice q (((xs[k]).conf).voters.length) s, .slice t (((xs[k]).conf).learners.length) u], _, _] _ := H
   refine RW.toStr (κ := .qui) (d := some 22) (r := [(10, .chn), (11, .qui), (12, .qui)]) (Ts := 29) (Td := 9) 5 (a := C) (len := ((entE (⟨(xs[k]).index, (xs[k]).term, (xs[k]).kind, ⟨((xs[k]).cmd).kind, ((xs[k]).cmd).client, ((xs[k]).cmd).seq, ((xs[k]).cmd).key, ((xs[k]).cmd).size, ((xs[k]).cmd).sum, ((xs[k]).cmd).version, ((xs[k]).cmd).epoch, ((xs[k]).cmd).group, ((xs[k]).cmd).node, ((xs[k]).cmd).up, (((xs[k]).cmd).id), (((xs[k]).cmd).amap)⟩, ((xs[k]).conf)⟩)).length)) (cap := D) (xs := entE (⟨(xs[k]).index, (xs[k]).term, (xs[k]).kind, ⟨((xs[k]).cmd).kind, ((xs[k]).cmd).client, ((xs[k]).cmd).seq, ((xs[k]).cmd).key, ((xs[k]).cmd).size, ((xs[k]).cmd).sum, ((xs[k]).cmd).version, ((xs[k]).cmd).epoch, ((xs[k]).cmd).group, ((xs[k]).cmd).node, ((xs[k]).cmd).up, (((xs[k]).cmd).id), (((xs[k]).cmd).amap)⟩, ((xs[k]).conf)⟩)) (by as_aux_lemma => kernel_rfl) (by as_aux_lemma => kernel_rfl) (H.view 0 rfl) ?_
   refine uK (putentry_spec (ys := ([] : List (BitVec 8))) (x := ⟨(xs[k]).index, (xs[k]).term, (xs[k]).kind, ⟨((xs[k]).cmd).kind, ((xs[k]).cmd).client, ((xs[k]).cmd).seq, ((xs[k]).cmd).key, ((xs[k]).cmd).size, ((xs[k]).cmd).sum, ((xs[k]).cmd).version, ((xs[k]).cmd).epoch, ((xs[k]).cmd).group, ((xs[k]).cmd).node, ((xs[k]).cmd).up, (((xs[k]).cmd).id), (((xs[k]).cmd).amap)⟩, ((xs[k]).conf)⟩) (H.rp 0 rfl) (ent_mk u64a u64a i64a (cmd_mk (l0 := [.I (((xs[k]).cmd).kind)]) (y0 := ((xs[k]).cmd).kind) (l1 := [.int .u64 (((xs[k]).cmd).client)]) (y1 := ((xs[k]).cmd).client) (l2 := [.int .u64 (((xs[k]).cmd).seq)]) (y2 := ((xs[k]).cmd).seq) (l3 := [.string (((xs[k]).cmd).key)]) (y3 := ((xs[k]).cmd).key) (l4 := [.I (((xs[k]).cmd).size)]) (y4 := ((xs[k]).cmd).size) (l5 := [.int .u32 (((((xs[k]).cmd).sum).toNat : Nat) : Int)]) (y5 := ((xs[k]).cmd).sum) (l6 := [.int .u64 (((xs[k]).cmd).version)]) (y6 := ((xs[k]).cmd).version) (l7 := [.int .u64 (((xs[k]).cmd).epoch)]) (y7 := ((xs[k]).cmd).epoch) (l8 := [.I (((xs[k]).cmd).group)]) (y8 := ((xs[k]).cmd).group) (l9 := [.I (((xs[k]).cmd).node)]) (y9 := ((xs[k]).cmd).node) (l10 := [.bool (((xs[k]).cmd).up)]) (y10 := ((xs[k]).cmd).up) (l11 := [.int .u64 ((((xs[k]).cmd).id).version), .I ((((xs[k]).cmd).id).index), .int .u64 ((((xs[k]).cmd).id).epoch)]) (y11 := (((xs[k]).cmd).id)) (l12 := [.int .u64 ((((xs[k]).cmd).amap).epoch), .slice m ((((xs[k]).cmd).amap).members.length) n]) (y12 := (((xs[k]).cmd).amap)) i64a u64a u64a ⟨rfl, by first | assumption | (simp [maxLen]; done) | decide⟩ i64a Shape.bv_mk u64a u64a i64a i64a Shape.bool_mk (cid_mk u64a i64a u64a) (amap_mk u64a (H.rp 3 rfl))) (conf_mk (H.rp 2 rfl) (H.rp 1 rfl))) (hz _ (List.getElem_mem (by omega))) (by first | omega | (simp only [List.length_nil]; omega))) ?_
   rintro _ _ - H'
   have H := H.back (M1 := []) (W1 := []) H'
   obtain ⟨E, F, rfl, _, _⟩ := H.ownForm 0 rfl
   have H : Hp w S [] [] [⟨Sb, 5, .slice E ((entE (⟨(xs[k]).index, (xs[k]).term, (xs[k]).kind, ⟨((xs[k]).cmd).kind, ((xs[k]).cmd).client, ((xs[k]).cmd).seq, ((xs[k]).cmd).key, ((xs[k]).cmd).size, ((xs[k]).cmd).sum, ((xs[k]).cmd).version, ((xs[k]).cmd).epoch, ((xs[k]).cmd).group, ((xs[k]).cmd).node, ((xs[k]).cmd).up, (((xs[k]).cmd).id), (((xs[k]).cmd).amap)⟩, ((xs[k]).conf)⟩)).length) F, entE (⟨(xs[k]).index, (xs[k]).term, (xs[k]).kind, ⟨((xs[k]).cmd).kind, ((xs[k]).cmd).client, ((xs[k]).cmd).seq, ((xs[k]).cmd).key, ((xs[k]).cmd).size, ((xs[k]).cmd).sum, ((xs[k]).cmd).version, ((xs[k]).cmd).epoch, ((xs[k]).cmd).group, ((xs[k]).cmd).node, ((xs[k]).cmd).up, (((xs[k]).cmd).id), (((xs[k]).cmd).amap)⟩, ((xs[k]).conf)⟩)⟩, _] [_, _, _, _, _, _, _, _, _, _, _] _ := H
   refine RW.toStr (κ := .qui) (d := some 28) (r := [(12, .qui)]) (Ts := 29) (Td := 9) 5 (a := E) (len := ((entE (⟨(xs[k]).index, (xs[k]).term, (xs[k]).kind, ⟨((xs[k]).cmd).kind, ((xs[k]).cmd).client, ((xs[k]).cmd).seq, ((xs[k]).cmd).key, ((xs[k]).cmd).size, ((xs[k]).cmd).sum, ((xs[k]).cmd).version, ((xs[k]).cmd).epoch, ((xs[k]).cmd).group, ((xs[k]).cmd).node, ((xs[k]).cmd).up, (((xs[k]).cmd).id), (((xs[k]).cmd).amap)⟩, ((xs[k]).conf)⟩)).length)) (cap := F) (xs := entE (⟨(xs[k]).index, (xs[k]).term, (xs[k]).kind, ⟨((xs[k]).cmd).kind, ((xs[k]).cmd).client, ((xs[k]).cmd).seq, ((xs[k]).cmd).key, ((xs[k]).cmd).size, ((xs[k]).cmd).sum, ((xs[k]).cmd).version, ((xs[k]).cmd).epoch, ((xs[k]).cmd).group, ((xs[k]).cmd).node, ((xs[k]).cmd).up, (((xs[k]).cmd).id), (((xs[k]).cmd).amap)⟩, ((xs[k]).conf)⟩)) (by as_aux_lemma => kernel_rfl) (by as_aux_lemma => kernel_rfl) (H.view 0 rfl) ?_
   refine uF 1 ?_
   refine qC (!((strOf (entE (⟨(xs[k]).index, (xs[k]).term, (xs[k]).kind, ⟨((xs[k]).cmd).kind, ((xs[k]).cmd).client, ((xs[k]).cmd).seq, ((xs[k]).cmd).key, ((xs[k]).cmd).size, ((xs[k]).cmd).sum, ((xs[k]).cmd).version, ((xs[k]).cmd).epoch, ((xs[k]).cmd).group, ((xs[k]).cmd).node, ((xs[k]).cmd).up, (((xs[k]).cmd).id), (((xs[k]).cmd).amap)⟩, ((xs[k]).conf)⟩))).toList == (strOf (entE (⟨(xs[k]).index, (xs[k]).term, (xs[k]).kind, ⟨((xs[k]).cmd).kind, ((xs[k]).cmd).client, ((xs[k]).cmd).seq, ((xs[k]).cmd).key, ((xs[k]).cmd).size, ((xs[k]).cmd).sum, ((xs[k]).cmd).version, ((xs[k]).cmd).epoch, ((xs[k]).cmd).group, ((xs[k]).cmd).node, ((xs[k]).cmd).up, (((xs[k]).cmd).id), (((xs[k]).cmd).amap)⟩, ((xs[k]).conf)⟩))).toList)) (fun f => ?_) (fun f => ?_)
   ·
    replace f : ((strOf (entE (⟨(xs[k]).index, (xs[k]).term, (xs[k]).kind, ⟨((xs[k]).cmd).kind, ((xs[k]).cmd).client, ((xs[k]).cmd).seq, ((xs[k]).cmd).key, ((xs[k]).cmd).size, ((xs[k]).cmd).sum, ((xs[k]).cmd).version, ((xs[k]).cmd).epoch, ((xs[k]).cmd).group, ((xs[k]).cmd).node, ((xs[k]).cmd).up, (((xs[k]).cmd).id), (((xs[k]).cmd).amap)⟩, ((xs[k]).conf)⟩))).toList == (strOf (entE (⟨(xs[k]).index, (xs[k]).term, (xs[k]).kind, ⟨((xs[k]).cmd).kind, ((xs[k]).cmd).client, ((xs[k]).cmd).seq, ((xs[k]).cmd).key, ((xs[k]).cmd).size, ((xs[k]).cmd).sum, ((xs[k]).cmd).version, ((xs[k]).cmd).epoch, ((xs[k]).cmd).group, ((xs[k]).cmd).node, ((xs[k]).cmd).up, (((xs[k]).cmd).id), (((xs[k]).cmd).amap)⟩, ((xs[k]).conf)⟩))).toList) = false := by revert f; cases ((strOf (entE (⟨(xs[k]).index, (xs[k]).term, (xs[k]).kind, ⟨((xs[k]).cmd).kind, ((xs[k]).cmd).client, ((xs[k]).cmd).seq, ((xs[k]).cmd).key, ((xs[k]).cmd).size, ((xs[k]).cmd).sum, ((xs[k]).cmd).version, ((xs[k]).cmd).epoch, ((xs[k]).cmd).group, ((xs[k]).cmd).node, ((xs[k]).cmd).up, (((xs[k]).cmd).id), (((xs[k]).cmd).amap)⟩, ((xs[k]).conf)⟩))).toList == (strOf (entE (⟨(xs[k]).index, (xs[k]).term, (xs[k]).kind, ⟨((xs[k]).cmd).kind, ((xs[k]).cmd).client, ((xs[k]).cmd).seq, ((xs[k]).cmd).key, ((xs[k]).cmd).size, ((xs[k]).cmd).sum, ((xs[k]).cmd).version, ((xs[k]).cmd).epoch, ((xs[k]).cmd).group, ((xs[k]).cmd).node, ((xs[k]).cmd).up, (((xs[k]).cmd).id), (((xs[k]).cmd).amap)⟩, ((xs[k]).conf)⟩))).toList) <;> simp
    replace f := ne_of_beq_false f
    exact absurd rfl f
   ·
    replace f : ((strOf (entE (⟨(xs[k]).index, (xs[k]).term, (xs[k]).kind, ⟨((xs[k]).cmd).kind, ((xs[k]).cmd).client, ((xs[k]).cmd).seq, ((xs[k]).cmd).key, ((xs[k]).cmd).size, ((xs[k]).cmd).sum, ((xs[k]).cmd).version, ((xs[k]).cmd).epoch, ((xs[k]).cmd).group, ((xs[k]).cmd).node, ((xs[k]).cmd).up, (((xs[k]).cmd).id), (((xs[k]).cmd).amap)⟩, ((xs[k]).conf)⟩))).toList == (strOf (entE (⟨(xs[k]).index, (xs[k]).term, (xs[k]).kind, ⟨((xs[k]).cmd).kind, ((xs[k]).cmd).client, ((xs[k]).cmd).seq, ((xs[k]).cmd).key, ((xs[k]).cmd).size, ((xs[k]).cmd).sum, ((xs[k]).cmd).version, ((xs[k]).cmd).epoch, ((xs[k]).cmd).group, ((xs[k]).cmd).node, ((xs[k]).cmd).up, (((xs[k]).cmd).id), (((xs[k]).cmd).amap)⟩, ((xs[k]).conf)⟩))).toList) = true := by revert f; cases ((strOf (entE (⟨(xs[k]).index, (xs[k]).term, (xs[k]).kind, ⟨((xs[k]).cmd).kind, ((xs[k]).cmd).client, ((xs[k]).cmd).seq, ((xs[k]).cmd).key, ((xs[k]).cmd).size, ((xs[k]).cmd).sum, ((xs[k]).cmd).version, ((xs[k]).cmd).epoch, ((xs[k]).cmd).group, ((xs[k]).cmd).node, ((xs[k]).cmd).up, (((xs[k]).cmd).id), (((xs[k]).cmd).amap)⟩, ((xs[k]).conf)⟩))).toList == (strOf (entE (⟨(xs[k]).index, (xs[k]).term, (xs[k]).kind, ⟨((xs[k]).cmd).kind, ((xs[k]).cmd).client, ((xs[k]).cmd).seq, ((xs[k]).cmd).key, ((xs[k]).cmd).size, ((xs[k]).cmd).sum, ((xs[k]).cmd).version, ((xs[k]).cmd).epoch, ((xs[k]).cmd).group, ((xs[k]).cmd).node, ((xs[k]).cmd).up, (((xs[k]).cmd).id), (((xs[k]).cmd).amap)⟩, ((xs[k]).conf)⟩))).toList) <;> simp
    replace f := eq_of_beq f
    refine uR 2 [.c [2, 0, 1, 0, 0, 2], .l [2, 0, 1, 0, 0], .b 0, .c [3]] ?_
    refine qG (sq 0 3) ?_
    refine uP 1 ?_
    refine uI ((k : Int) + 1) ?_
    refine uF 1 ?_
    have H := H.pick [9, 10] rfl
    have H := H.take 0 0
    exact uB (o (k + 1) _ ⟨H, by omega⟩ (by first | omega | (simp only []; omega)))
  ·
   refine uR 3 [.c [4]] ?_
   refine qT (.bool true) Tryz.func46 ?_
   exact ⟨_, rfl, H.done, rfl⟩
end Go.Proofs.YtkjkmogipidkiaaGreat
