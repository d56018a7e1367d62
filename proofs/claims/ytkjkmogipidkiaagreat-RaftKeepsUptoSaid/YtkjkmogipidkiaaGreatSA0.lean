import Derived.Test.YtkjkmogipidkiaaGreatSBxA
import Derived.Test.YtkjkmogipidkiaaGreatSQ2
namespace Go.Proofs.YtkjkmogipidkiaaGreat
open Go.BX
theorem common_nil {a b : List Int} : common a b = 0 ↔ ∀ x ∈ a, x ∉ b := by
 unfold common
 rw [List.length_eq_zero_iff, List.filter_eq_nil_iff]
 simp
theorem clone_nil {S : Nat → Prop} {w : World} {xs : List Int} {c : Nat} (h : (Shape.slice (Shape.int .i64)).rep S w [.slice none xs.length c] xs) (hby : xs.length * 8 ≤ 140737488355328) :
 Calls Tryz.prog 49 #[.slice none xs.length c] w (Ret fun v w' => Ext w w' ∧ Hp w S [] [] [⟨Shape.int .i64, 3, v, xs⟩] [] w') := by
 have hx := Shape.slice_none h
 refine uS1 Tryz.func49 ?_
 have H := Hp.startF (.rp h .nil)
 refine uR 8 [.c [1, 0, 1, 0, 1], .c [2]] ?_
 refine qT (.slice none 0 0) Tryz.func49 ?_
 subst hx
 exact ⟨_, rfl, H.done, (H.pick [] rfl).ownNil (Shape.int .i64) 3⟩
theorem clone_some {S : Nat → Prop} {w : World} {xs : List Int} {a : Addr} {c : Nat} (h : (Shape.slice (Shape.int .i64)).rep S w [.slice (some a) xs.length c] xs) (hby : xs.length * 8 ≤ 140737488355328) :
 Calls Tryz.prog 49 #[.slice (some a) xs.length c] w (Ret fun v w' => Ext w w' ∧ Hp w S [] [] [⟨Shape.int .i64, 3, v, xs⟩] [] w') := by
 refine uS1 Tryz.func49 ?_
 have H := Hp.startF (.rp h .nil)
 refine uR 8 [.c [2, 0], .c [3]] ?_
 refine qG (sq 0 4) ?_
 refine RW.new (κ := .seq) (d := some 5) (r := (sq 1 4)) (o := .cells #[] 3 (0, 0)) (v := fun b => .slice (some ⟨b, 0, none⟩) 0 0) (fun b => by as_aux_lemma => kernel_rfl) (nofun) H ?_
 intro g _ H
 refine uP 1 ?_
 have H := H.toOwn (sh := Shape.int .i64) (xs := []) (cap := 0) (by rfl) (Nat.le_refl _) (Nat.zero_le _) (by simp) EsP.nil
 have H : Hp w S [] [] [⟨Shape.int .i64, 3, .slice (some ⟨g, 0, none⟩) 0 0, []⟩] [_] _ := H
 refine uA 26 26 8 xs H 0 rfl 0 rfl (rfl) (by omega) ?_
 intro e f _ H _
 have H : Hp w S [] [] [⟨Shape.int .i64, 3, .slice e xs.length f, xs⟩] [_] _ := H
 refine uF 1 ?_
 refine qT (.slice e xs.length f) Tryz.func49 ?_
 exact ⟨_, rfl, H.done, H.pick [] rfl⟩
theorem clone_spec {S : Nat → Prop} {w : World} {xs : List Int} {a : Option Addr} {c : Nat} (h : (Shape.slice (Shape.int .i64)).rep S w [.slice a xs.length c] xs) (hby : xs.length * 8 ≤ 140737488355328) :
 Calls Tryz.prog 49 #[.slice a xs.length c] w (Ret fun v w' => Ext w w' ∧ Hp w S [] [] [⟨Shape.int .i64, 3, v, xs⟩] [] w') := by
 cases a with
 | none => exact clone_nil h hby
 | some a => exact clone_some h hby
theorem bclone_nil {S : Nat → Prop} {w : World} {xs : List (BitVec 8)} {c : Nat} (h : SB.rep S w [.slice none xs.length c] xs) (hby : xs.length * 1 ≤ 140737488355328) :
 Calls Tryz.prog 38 #[.slice none xs.length c] w (Ret fun v w' => Ext w w' ∧ Hp w S [] [] [⟨Sb, 5, v, xs⟩] [] w') := by
 have hx := Shape.slice_none h
 refine uS1 Tryz.func38 ?_
 have H := Hp.startF (.rp h .nil)
 refine uR 8 [.c [1, 0, 1, 0, 1], .c [2]] ?_
 refine qT (.slice none 0 0) Tryz.func38 ?_
 subst hx
 exact ⟨_, rfl, H.done, (H.pick [] rfl).ownNil Sb 5⟩
theorem bclone_some {S : Nat → Prop} {w : World} {xs : List (BitVec 8)} {a : Addr} {c : Nat} (h : SB.rep S w [.slice (some a) xs.length c] xs) (hby : xs.length * 1 ≤ 140737488355328) :
 Calls Tryz.prog 38 #[.slice (some a) xs.length c] w (Ret fun v w' => Ext w w' ∧ Hp w S [] [] [⟨Sb, 5, v, xs⟩] [] w') := by
 refine uS1 Tryz.func38 ?_
 have H := Hp.startF (.rp h .nil)
 refine uR 8 [.c [2, 0], .c [3]] ?_
 refine qG (sq 0 4) ?_
 refine RW.new (κ := .seq) (d := some 5) (r := (sq 1 4)) (o := .cells #[] 5 (0, 0)) (v := fun b => .slice (some ⟨b, 0, none⟩) 0 0) (fun b => by as_aux_lemma => kernel_rfl) (nofun) H ?_
 intro g _ H
 refine uP 1 ?_
 have H := H.toOwn (sh := Sb) (xs := []) (cap := 0) (by rfl) (Nat.le_refl _) (Nat.zero_le _) (by simp) EsP.nil
 have H : Hp w S [] [] [⟨Sb, 5, .slice (some ⟨g, 0, none⟩) 0 0, []⟩] [_] _ := H
 refine uA 29 29 1 xs H 0 rfl 0 rfl (rfl) (by omega) ?_
 intro e f _ H _
 have H : Hp w S [] [] [⟨Sb, 5, .slice e xs.length f, xs⟩] [_] _ := H
 refine uF 1 ?_
 refine qT (.slice e xs.length f) Tryz.func38 ?_
 exact ⟨_, rfl, H.done, H.pick [] rfl⟩
theorem bclone_spec {S : Nat → Prop} {w : World} {xs : List (BitVec 8)} {a : Option Addr} {c : Nat} (h : SB.rep S w [.slice a xs.length c] xs) (hby : xs.length * 1 ≤ 140737488355328) :
 Calls Tryz.prog 38 #[.slice a xs.length c] w (Ret fun v w' => Ext w w' ∧ Hp w S [] [] [⟨Sb, 5, v, xs⟩] [] w') := by
 cases a with
 | none => exact bclone_nil h hby
 | some a => exact bclone_some h hby
theorem eclone_nil {S : Nat → Prop} {w : World} {xs : List Ent} {c : Nat} (h : (Shape.slice entS).rep S w [.slice none xs.length c] xs) (hby : xs.length * 224 ≤ 140737488355328) :
 Calls Tryz.prog 39 #[.slice none xs.length c] w (Ret fun v w' => Ext w w' ∧ Hp w S [] [] [⟨entS, 71, v, xs⟩] [] w') := by
 have hx := Shape.slice_none h
 refine uS1 Tryz.func39 ?_
 have H := Hp.startF (.rp h .nil)
 refine uR 8 [.c [1, 0, 1, 0, 1], .c [2]] ?_
 refine qT (.slice none 0 0) Tryz.func39 ?_
 subst hx
 exact ⟨_, rfl, H.done, (H.pick [] rfl).ownNil entS 71⟩
theorem eclone_some {S : Nat → Prop} {w : World} {xs : List Ent} {a : Addr} {c : Nat} (h : (Shape.slice entS).rep S w [.slice (some a) xs.length c] xs) (hby : xs.length * 224 ≤ 140737488355328) :
 Calls Tryz.prog 39 #[.slice (some a) xs.length c] w (Ret fun v w' => Ext w w' ∧ Hp w S [] [] [⟨entS, 71, v, xs⟩] [] w') := by
 refine uS1 Tryz.func39 ?_
 have H := Hp.startF (.rp h .nil)
 refine uR 8 [.c [2, 0], .c [3]] ?_
 refine qG (sq 0 4) ?_
 refine RW.new (κ := .seq) (d := some 5) (r := (sq 1 4)) (o := .cells #[] 71 (0, 0)) (v := fun b => .slice (some ⟨b, 0, none⟩) 0 0) (fun b => by as_aux_lemma => kernel_rfl) (nofun) H ?_
 intro g _ H
 refine uP 1 ?_
 have H := H.toOwn (sh := entS) (xs := []) (cap := 0) (by rfl) (Nat.le_refl _) (Nat.zero_le _) (by simp) EsP.nil
 have H : Hp w S [] [] [⟨entS, 71, .slice (some ⟨g, 0, none⟩) 0 0, []⟩] [_] _ := H
 refine uA 30 30 224 xs H 0 rfl 0 rfl (rfl) (by omega) ?_
 intro e f _ H _
 have H : Hp w S [] [] [⟨entS, 71, .slice e xs.length f, xs⟩] [_] _ := H
 refine uF 1 ?_
 refine qT (.slice e xs.length f) Tryz.func39 ?_
 exact ⟨_, rfl, H.done, H.pick [] rfl⟩
theorem eclone_spec {S : Nat → Prop} {w : World} {xs : List Ent} {a : Option Addr} {c : Nat} (h : (Shape.slice entS).rep S w [.slice a xs.length c] xs) (hby : xs.length * 224 ≤ 140737488355328) :
 Calls Tryz.prog 39 #[.slice a xs.length c] w (Ret fun v w' => Ext w w' ∧ Hp w S [] [] [⟨entS, 71, v, xs⟩] [] w') := by
 cases a with
 | none => exact eclone_nil h hby
 | some a => exact eclone_some h hby
theorem pclone_nil {S : Nat → Prop} {w : World} {xs : List Peer} {c : Nat} (h : (Shape.slice peerS).rep S w [.slice none xs.length c] xs) (hby : xs.length * 32 ≤ 140737488355328) :
 Calls Tryz.prog 50 #[.slice none xs.length c] w (Ret fun v w' => Ext w w' ∧ Hp w S [] [] [⟨peerS, 123, v, xs⟩] [] w') := by
 have hx := Shape.slice_none h
 refine uS1 Tryz.func50 ?_
 have H := Hp.startF (.rp h .nil)
 refine uR 8 [.c [1, 0, 1, 0, 1], .c [2]] ?_
 refine qT (.slice none 0 0) Tryz.func50 ?_
 subst hx
 exact ⟨_, rfl, H.done, (H.pick [] rfl).ownNil peerS 123⟩
theorem pclone_some {S : Nat → Prop} {w : World} {xs : List Peer} {a : Addr} {c : Nat} (h : (Shape.slice peerS).rep S w [.slice (some a) xs.length c] xs) (hby : xs.length * 32 ≤ 140737488355328) :
 Calls Tryz.prog 50 #[.slice (some a) xs.length c] w (Ret fun v w' => Ext w w' ∧ Hp w S [] [] [⟨peerS, 123, v, xs⟩] [] w') := by
 refine uS1 Tryz.func50 ?_
 have H := Hp.startF (.rp h .nil)
 refine uR 8 [.c [2, 0], .c [3]] ?_
 refine qG (sq 0 4) ?_
 refine RW.new (κ := .seq) (d := some 5) (r := (sq 1 4)) (o := .cells #[] 123 (0, 0)) (v := fun b => .slice (some ⟨b, 0, none⟩) 0 0) (fun b => by as_aux_lemma => kernel_rfl) (nofun) H ?_
 intro g _ H
 refine uP 1 ?_
 have H := H.toOwn (sh := peerS) (xs := []) (cap := 0) (by rfl) (Nat.le_refl _) (Nat.zero_le _) (by simp) EsP.nil
 have H : Hp w S [] [] [⟨peerS, 123, .slice (some ⟨g, 0, none⟩) 0 0, []⟩] [_] _ := H
 refine uA 32 32 32 xs H 0 rfl 0 rfl (rfl) (by omega) ?_
 intro e f _ H _
 have H : Hp w S [] [] [⟨peerS, 123, .slice e xs.length f, xs⟩] [_] _ := H
 refine uF 1 ?_
 refine qT (.slice e xs.length f) Tryz.func50 ?_
 exact ⟨_, rfl, H.done, H.pick [] rfl⟩
theorem pclone_spec {S : Nat → Prop} {w : World} {xs : List Peer} {a : Option Addr} {c : Nat} (h : (Shape.slice peerS).rep S w [.slice a xs.length c] xs) (hby : xs.length * 32 ≤ 140737488355328) :
 Calls Tryz.prog 50 #[.slice a xs.length c] w (Ret fun v w' => Ext w w' ∧ Hp w S [] [] [⟨peerS, 123, v, xs⟩] [] w') := by
 cases a with
 | none => exact pclone_nil h hby
 | some a => exact pclone_some h hby
theorem rclone_nil {S : Nat → Prop} {w : World} {xs : List Rdg} {c : Nat} (h : (Shape.slice rdgS).rep S w [.slice none xs.length c] xs) (hby : xs.length * 48 ≤ 140737488355328) :
 Calls Tryz.prog 51 #[.slice none xs.length c] w (Ret fun v w' => Ext w w' ∧ Hp w S [] [] [⟨rdgS, 73, v, xs⟩] [] w') := by
 have hx := Shape.slice_none h
 refine uS1 Tryz.func51 ?_
 have H := Hp.startF (.rp h .nil)
 refine uR 8 [.c [1, 0, 1, 0, 1], .c [2]] ?_
 refine qT (.slice none 0 0) Tryz.func51 ?_
 subst hx
 exact ⟨_, rfl, H.done, (H.pick [] rfl).ownNil rdgS 73⟩
theorem rclone_some {S : Nat → Prop} {w : World} {xs : List Rdg} {a : Addr} {c : Nat} (h : (Shape.slice rdgS).rep S w [.slice (some a) xs.length c] xs) (hby : xs.length * 48 ≤ 140737488355328) :
 Calls Tryz.prog 51 #[.slice (some a) xs.length c] w (Ret fun v w' => Ext w w' ∧ Hp w S [] [] [⟨rdgS, 73, v, xs⟩] [] w') := by
 refine uS1 Tryz.func51 ?_
 have H := Hp.startF (.rp h .nil)
 refine uR 8 [.c [2, 0], .c [3]] ?_
 refine qG (sq 0 4) ?_
 refine RW.new (κ := .seq) (d := some 5) (r := (sq 1 4)) (o := .cells #[] 73 (0, 0)) (v := fun b => .slice (some ⟨b, 0, none⟩) 0 0) (fun b => by as_aux_lemma => kernel_rfl) (nofun) H ?_
 intro g _ H
 refine uP 1 ?_
 have H := H.toOwn (sh := rdgS) (xs := []) (cap := 0) (by rfl) (Nat.le_refl _) (Nat.zero_le _) (by simp) EsP.nil
 have H : Hp w S [] [] [⟨rdgS, 73, .slice (some ⟨g, 0, none⟩) 0 0, []⟩] [_] _ := H
 refine uA 33 33 48 xs H 0 rfl 0 rfl (rfl) (by omega) ?_
 intro e f _ H _
 have H : Hp w S [] [] [⟨rdgS, 73, .slice e xs.length f, xs⟩] [_] _ := H
 refine uF 1 ?_
 refine qT (.slice e xs.length f) Tryz.func51 ?_
 exact ⟨_, rfl, H.done, H.pick [] rfl⟩
theorem rclone_spec {S : Nat → Prop} {w : World} {xs : List Rdg} {a : Option Addr} {c : Nat} (h : (Shape.slice rdgS).rep S w [.slice a xs.length c] xs) (hby : xs.length * 48 ≤ 140737488355328) :
 Calls Tryz.prog 51 #[.slice a xs.length c] w (Ret fun v w' => Ext w w' ∧ Hp w S [] [] [⟨rdgS, 73, v, xs⟩] [] w') := by
 cases a with
 | none => exact rclone_nil h hby
 | some a => exact rclone_some h hby
theorem refrising_spec {S : Nat → Prop} {w : World} {xs : List Int} {a : Option Addr} {c : Nat} (h : (Shape.slice (.int .i64)).rep S w [.slice a xs.length c] xs) :
 Calls Tryz.prog 36 #[.slice a xs.length c] w (Ret fun v w' => Ext w w' ∧ v = .bool (risesFrom 0 xs)) := by
 have hlen := Shape.slice_len h
 refine uS1 Tryz.func36 ?_
 have H := Hp.startF (.rp h .nil)
 refine uR 8 [.c [2, 0, 1, 0], .b 0, .c [3]] ?_
 refine uL (α := Nat × Int) (g := 36) (p := [2, 0, 1, 0, 0]) (fun (k, l) => [(0, .slice a xs.length c), (3, .I l), (4, .I k)]) (fun (k, l) w' => Hp w S [] [] [] [Rp (Shape.slice (Shape.int .i64)) [.slice a xs.length c] xs] w' ∧ k ≤ xs.length ∧ risesFrom 0 xs = risesFrom l (xs.drop k)) (fun (k, l) => xs.length - k) (0, 0) ⟨H, by simp⟩ ?_
 rintro ⟨k, l⟩ _ ⟨H, d⟩ e
 refine uR 3 [.c [2, 0, 1, 0, 0, 0, 1], .c [2, 0, 1, 0, 0, 1], .l [2, 0, 1, 0, 0], .b 0, .c [3]] ?_
 refine qD (((k : Int) : Int) < ((xs.length : Nat) : Int)) (fun s => ?_) (fun s => ?_)
 ·
  refine uR 5 [.c [2, 0, 1, 0, 0, 1, 0, 0, 0, 0], .c [2, 0, 1, 0, 0, 1, 0, 0, 0, 1], .c [2, 0, 1, 0, 0, 1, 0, 0, 1], .b 1, .c [2, 0, 1, 0, 0, 2], .l [2, 0, 1, 0, 0], .b 0, .c [3]] ?_
  refine qG (sq 0 13) ?_
  refine uP 2 ?_
  have o : k < xs.length := by omega
  refine uX 26 (k : Int) H 0 rfl k (by omega) (List.getElem?_eq_getElem o) ?_
  intro _ _ _ j H
  have x := Shape.i64_bd j
  obtain ⟨rfl, -⟩ := j
  refine uV 3 0 (H.fc 0 rfl) ?_
  refine uP 3 ?_
  refine uD 17 ((xs[k] : Int) ≤ l) (fun q => ?_) (fun q => ?_)
  ·
   refine uF 6 ?_
   refine uR 3 [.c [2, 0, 1, 0, 0, 1, 0, 0, 0, 1, 0, 1], .c [2, 0, 1, 0, 0, 1, 0, 0, 1], .b 1, .c [2, 0, 1, 0, 0, 2], .l [2, 0, 1, 0, 0], .b 0, .c [3]] ?_
   refine qT (.bool false) Tryz.func36 ?_
   refine ⟨_, rfl, H.done, ?_⟩
   congr 1
   rw [d.2]
   rw [risesFrom_step (by omega), if_pos (by omega)]
  ·
   refine uP 2 ?_
   have m : k < xs.length := by omega
   refine uX 26 (k : Int) H 1 rfl k (by omega) (List.getElem?_eq_getElem m) ?_
   intro _ _ _ f H
   have t := Shape.i64_bd f
   obtain ⟨rfl, -⟩ := f
   refine uV 3 0 (H.fc 0 rfl) ?_
   refine uF 2 ?_
   refine qD ((xs[k] : Int) > 32) (fun r => ?_) (fun r => ?_)
   ·
    refine uR 2 [.c [2, 0, 1, 0, 0, 1, 0, 0, 0, 1, 0, 1], .c [2, 0, 1, 0, 0, 1, 0, 0, 1], .b 1, .c [2, 0, 1, 0, 0, 2], .l [2, 0, 1, 0, 0], .b 0, .c [3]] ?_
    refine qT (.bool false) Tryz.func36 ?_
    refine ⟨_, rfl, H.done, ?_⟩
    congr 1
    rw [d.2]
    rw [risesFrom_step (by omega), if_pos (by omega)]
   ·
    refine uR 1 [.c [2, 0, 1, 0, 0, 1, 0, 0, 1], .b 1, .c [2, 0, 1, 0, 0, 2], .l [2, 0, 1, 0, 0], .b 0, .c [3]] ?_
    refine qG (sq 0 5) ?_
    refine qP 2 (sq 2 5) [(0, .slice a xs.length c), (4, .I k), (24, .slice a xs.length c), (25, .I k)] ?_
    have n : k < xs.length := by omega
    refine uX 26 (k : Int) H 2 rfl k (by omega) (List.getElem?_eq_getElem n) ?_
    intro _ _ _ i H
    have u := Shape.i64_bd i
    obtain ⟨rfl, -⟩ := i
    refine uV 3 0 (H.fc 0 rfl) ?_
    refine uF 1 ?_
    refine uR 1 [.c [2, 0, 1, 0, 0, 2], .l [2, 0, 1, 0, 0], .b 0, .c [3]] ?_
    refine qG (sq 0 3) ?_
    refine uP 1 ?_
    refine uI ((k : Int) + 1) ?_
    refine uF 1 ?_
    have H := H.pick [3] rfl
    exact uB (e (k + 1, xs[k]) _ ⟨H, by omega, by rw [d.2, risesFrom_step (by omega), if_neg (by omega)]⟩ (by first | omega | (simp only []; omega)))
 ·
  refine uR 3 [.c [4]] ?_
  refine qT (.bool true) Tryz.func36 ?_
  refine ⟨_, rfl, H.done, ?_⟩
  congr 1
  rw [d.2]
  rw [List.drop_of_length_le (by omega)]; rfl
theorem refcheck_spec {S : Nat → Prop} {w : World} {cs : List Value} {C : Conf} (h : confS.rep S w cs C) :
 Calls Tryz.prog 13 #[.agg cs.toArray] w (Ret fun v w' => Ext w w' ∧ v = .I (errOf (okConf C))) := by
 obtain ⟨e, f, i, j, rfl, hvC, hlC⟩ := conf_open h
 have hlen := Shape.slice_len hlC
 refine uS1 Tryz.func13 ?_
 have H := Hp.startF (.rp hvC (.rp hlC .nil))
 refine uR 1 [.c [0], .c [1]] ?_
 refine qG (sq 0 2) ?_
 refine uC #[.slice e C.voters.length f, .slice i C.learners.length j] 28 H ?_
 intro r _ H
 refine uF 1 ?_
 refine uR 2 [.c [1, 0, 0], .c [1, 0, 1], .c [2]] ?_
 refine qG (sq 0 16) ?_
 refine uP 1 ?_
 refine uV 26 0 (H.cells 0 rfl) ?_
 refine uK (refrising_spec (H.rp 0 rfl)) ?_
 rintro _ _ u rfl
 have H := H.ext u
 refine uP 2 ?_
 refine uT 8 (!(risesFrom 0 C.voters)) (fun m => ?_) (fun m => ?_)
 ·
  replace m : (risesFrom 0 C.voters) = false := by revert m; cases (risesFrom 0 C.voters) <;> simp
  refine uF 11 ?_
  refine uR 3 [.c [1, 0, 1, 0, 1], .c [2]] ?_
  refine qT (.I 120) Tryz.func13 ?_
  refine ⟨_, rfl, H.done, ?_⟩
  congr 1
  exact (errOf_no fun hk => by obtain ⟨k1, k2, k3, k4⟩ := okConf_iff.1 hk; first | omega | (simp_all; done) | exact common_nil.1 k4 _ (by assumption) (List.getElem_mem _)).symm
 ·
  replace m : (risesFrom 0 C.voters) = true := by revert m; cases (risesFrom 0 C.voters) <;> simp
  refine uP 1 ?_
  refine uV 26 1 (H.cells 0 rfl) ?_
  refine uK (refrising_spec (H.rp 1 rfl)) ?_
  rintro _ _ y rfl
  have H := H.ext y
  refine uP 3 ?_
  refine uT 14 (!(risesFrom 0 C.learners)) (fun n => ?_) (fun n => ?_)
  ·
   replace n : (risesFrom 0 C.learners) = false := by revert n; cases (risesFrom 0 C.learners) <;> simp
   refine uF 5 ?_
   refine qR 3 [.c [1, 0, 1, 0, 1], .c [2]] [(2, .I 120)] ?_
   refine qT (.I 120) Tryz.func13 ?_
   refine ⟨_, rfl, H.done, ?_⟩
   congr 1
   exact (errOf_no fun hk => by obtain ⟨k1, k2, k3, k4⟩ := okConf_iff.1 hk; first | omega | (simp_all; done) | exact common_nil.1 k4 _ (by assumption) (List.getElem_mem _)).symm
  ·
   replace n : (risesFrom 0 C.learners) = true := by revert n; cases (risesFrom 0 C.learners) <;> simp
   refine uP 1 ?_
   refine uV 26 0 (H.cells 0 rfl) ?_
   refine uF 3 ?_
   refine qE ((C.voters.length : Nat) : Int) 0 (fun B => ?_) (fun B => ?_)
   ·
    refine uR 2 [.c [1, 0, 1, 0, 1], .c [2]] ?_
    refine qT (.I 120) Tryz.func13 ?_
    refine ⟨_, rfl, H.done, ?_⟩
    congr 1
    exact (errOf_no fun hk => by obtain ⟨k1, k2, k3, k4⟩ := okConf_iff.1 hk; first | omega | (simp_all; done) | exact common_nil.1 k4 _ (by assumption) (List.getElem_mem _)).symm
   ·
    refine uR 5 [.c [2, 0, 1, 0], .b 0, .c [3]] ?_
    refine uL (α := Nat) (g := 13) (p := [2, 0, 1, 0, 0]) (fun k => [(1, .P r 0), (3, .I k)]) (fun k w' => Hp w S [] [(r, .cells #[.slice e C.voters.length f, .slice i C.learners.length j] 28 (0, 0))] [] [Rp (Shape.slice (Shape.int .i64)) [.slice e C.voters.length f] C.voters, Rp (Shape.slice (Shape.int .i64)) [.slice i C.learners.length j] C.learners] w' ∧ k ≤ C.learners.length ∧ ∀ x ∈ C.learners.take k, x ∉ C.voters) (fun k => C.learners.length - k) 0 ⟨H, by simp⟩ ?_
    rintro k q ⟨H, a⟩ d
    refine uR 2 [.c [2, 0, 1, 0, 0, 0, 0], .c [2, 0, 1, 0, 0, 0, 1], .c [2, 0, 1, 0, 0, 1], .l [2, 0, 1, 0, 0], .b 0, .c [3]] ?_
    refine qG (sq 0 5) ?_
    refine uP 2 ?_
    refine uV 26 1 (H.cells 0 rfl) ?_
    refine uF 2 ?_
    refine qD (((k : Int) : Int) < ((C.learners.length : Nat) : Int)) (fun z => ?_) (fun z => ?_)
    ·
     refine uR 4 [.c [2, 0, 1, 0, 0, 1, 0, 0, 0], .c [2, 0, 1, 0, 0, 1, 0, 0, 1], .b 1, .c [2, 0, 1, 0, 0, 2], .l [2, 0, 1, 0, 0], .b 0, .c [3]] ?_
     refine WK.draw1 8 [(0, .qui), (1, .qui), (2, .qui), (3, .qui), (4, .qui), (5, .qui), (6, .qui), (7, .chn)] [(0, .qui), (1, .qui), (2, .qui), (3, .qui), (4, .qui), (5, .qui), (6, .qui), (7, .chn)] Tryz_mixed (by as_aux_lemma => kernel_rfl) (by as_aux_lemma => kernel_rfl) (by as_aux_lemma => kernel_rfl) ?_
     have H := H.draw
     generalize ({ q with drawn := q.drawn + 1 } : World) = E at H ⊢
     refine uP 1 ?_
     refine uV 26 1 (H.cells 0 rfl) ?_
     refine uP 1 ?_
     have s : k < C.learners.length := by omega
     refine uX 26 (k : Int) H 1 rfl k (by omega) (List.getElem?_eq_getElem s) ?_
     intro _ _ _ o H
     have D := Shape.i64_bd o
     obtain ⟨rfl, -⟩ := o
     refine uV 3 0 (H.fc 0 rfl) ?_
     refine uP 1 ?_
     refine uV 26 0 (H.cells 0 rfl) ?_
     refine uK (in_spec (C.learners[k]) (H.rp 1 rfl)) ?_
     rintro _ _ t rfl
     have H := H.ext t
     refine uF 0 ?_
     refine qD (C.learners[k] ∈ C.voters) (fun A => ?_) (fun A => ?_)
     ·
      refine uR 2 [.c [2, 0, 1, 0, 0, 1, 0, 0, 1, 0, 1], .b 1, .c [2, 0, 1, 0, 0, 2], .l [2, 0, 1, 0, 0], .b 0, .c [3]] ?_
      refine qT (.I 120) Tryz.func13 ?_
      refine ⟨_, rfl, H.done, ?_⟩
      congr 1
      exact (errOf_no fun hk => by obtain ⟨k1, k2, k3, k4⟩ := okConf_iff.1 hk; first | omega | (simp_all; done) | exact common_nil.1 k4 _ (by assumption) (List.getElem_mem _)).symm
     ·
      refine uR 2 [.c [2, 0, 1, 0, 0, 2], .l [2, 0, 1, 0, 0], .b 0, .c [3]] ?_
      refine qG (sq 0 3) ?_
      refine qP 1 (sq 1 3) [(1, .P r 0), (3, .I k), (25, .I k)] ?_
      refine uI ((k : Int) + 1) ?_
      refine uF 1 ?_
      have H := H.pick [1, 2] rfl
      exact uB (d (k + 1) _ ⟨H, by omega, fun x hx => by rcases (take_succ_mem (by omega)).1 hx with hx | rfl; exact a.2 x hx; assumption⟩ (by first | omega | (simp only []; omega)))
    ·
     refine uR 3 [.c [4]] ?_
     refine qT (.I 0) Tryz.func13 ?_
     refine ⟨_, rfl, H.done, ?_⟩
     congr 1
     exact (errOf_yes (okConf_iff.2 ⟨by omega, by assumption, by assumption, common_nil.2 fun x hx hm => a.2 x (by rw [List.take_of_length_le (by omega)]; exact hm) hx⟩)).symm
theorem refcopy_spec {S : Nat → Prop} {w : World} {cs : List Value} {C : Conf} (h : confS.rep S w cs C) (hb1 : C.voters.length * 8 ≤ 140737488355328) (hb2 : C.learners.length * 8 ≤ 140737488355328) :
 Calls Tryz.prog 41 #[.agg cs.toArray] w (Ret fun v w' => Ext w w' ∧ ∃ (ds : List Value), v = .agg ds.toArray ∧ confS.rep (Nw S w) w' ds C) := by
 obtain ⟨a, f, g, i, rfl, hvC, hlC⟩ := conf_open h
 refine uS1 Tryz.func41 ?_
 have H := Hp.startF (.rp hvC (.rp hlC .nil))
 refine uR 1 [.c [0], .c [1]] ?_
 refine qG (sq 0 2) ?_
 refine uC #[.slice a C.voters.length f, .slice g C.learners.length i] 28 H ?_
 intro _ _ H
 refine uC #[.slice none 0 0, .slice none 0 0] 28 H ?_
 intro I A H
 refine uF 0 ?_
 refine uR 1 [.c [1, 0], .c [2]] ?_
 refine WK.drawT1 9 [true, true, true, true, true, true, true, true, true, false] (.node (qs [1, 2, 5, 6]) (.cons 0 (.node [] (.cons 3 (.leaf [(4, .chn), (7, .chn), (8, .qui)]) (.cons 4 (.leaf [(3, .chn), (7, .chn), (8, .qui)]) .nil))) (.cons 4 (.leaf [(0, .chn), (3, .chn), (7, .chn), (8, .qui)]) .nil))) Tryz_mixed (by as_aux_lemma => kernel_rfl) (by as_aux_lemma => kernel_rfl) ?_
 have H := H.draw
 generalize ({ A with drawn := A.drawn + 1 } : World) = J at H ⊢
 refine RT.node' (qs [1, 2, 5, 6]) (by as_aux_lemma => kernel_rfl) ?_
 refine uP 1 ?_
 refine uV 26 0 (H.cells 1 rfl) ?_
 refine uP 1 ?_
 refine uV 26 1 (H.cells 1 rfl) ?_
 refine uTF 0 ?_
 refine (RB.cons' ?_ (RB.cons' ?_ RB.nil'))
 ·
  refine RT.node' [(0, .chn)] (by as_aux_lemma => kernel_rfl) ?_
  refine RW.new (κ := .chn) (d := some 3) (r := []) (o := .cells #[] 3 (0, 0)) (v := fun b => .slice (some ⟨b, 0, none⟩) 0 0) (fun b => by as_aux_lemma => kernel_rfl) (nofun) H ?_
  intro B _ H
  refine uTF 0 ?_
  refine (RB.cons' ?_ (RB.cons' ?_ RB.nil'))
  ·
   refine RT.leaf' [(3, .chn), (4, .chn), (7, .chn), (8, .qui), (9, .seq)] (by as_aux_lemma => kernel_rfl) ?_
   refine RW.appendN (κ := .chn) (d := some 6) (r := [(4, .chn), (7, .chn), (8, .qui), (9, .seq)]) (T := 26) (ty := 26) (e := 3) (m := 1) (by_ := 8) (a0 := (some ⟨B, 0, none⟩)) (a2 := a) (l2 := C.voters.length) (c2 := f) (by as_aux_lemma => kernel_rfl) (nofun) (.inr ⟨_, rfl⟩) (by as_aux_lemma => kernel_rfl) rfl H 0 rfl (by omega) ?_
   intro y z _ H
   refine RW.new (κ := .chn) (d := some 7) (r := [(7, .chn), (8, .qui), (9, .seq)]) (o := .cells #[] 3 (0, 0)) (v := fun b => .slice (some ⟨b, 0, none⟩) 0 0) (fun b => by as_aux_lemma => kernel_rfl) (nofun) H ?_
   intro D _ H
   refine RW.appendN (κ := .chn) (d := some 10) (r := [(8, .qui), (9, .seq)]) (T := 26) (ty := 26) (e := 3) (m := 1) (by_ := 8) (a0 := (some ⟨D, 0, none⟩)) (a2 := g) (l2 := C.learners.length) (c2 := i) (by as_aux_lemma => kernel_rfl) (nofun) (.inr ⟨_, rfl⟩) (by as_aux_lemma => kernel_rfl) rfl H 2 rfl (by omega) ?_
   intro j k _ H
   refine uP 1 ?_
   refine uW 28 0 #[.slice y C.voters.length z, .slice j C.learners.length k] H 2 rfl ?_
   intro _ H
   refine uF 0 ?_
   refine qRB (.agg #[.slice y C.voters.length z, .slice j C.learners.length k]) Tryz.func41 (v1 (.cell 2 28) (vC (H.cells 2 rfl))) ?_
   exact ⟨_, rfl, H.done, [.slice y C.voters.length z, .slice j C.learners.length k], rfl, H.out (conf_mk (H.rp 1 rfl) (H.rp 0 rfl))⟩
  ·
   refine RT.leaf' [(4, .chn), (3, .chn), (7, .chn), (8, .qui), (9, .seq)] (by as_aux_lemma => kernel_rfl) ?_
   refine RW.new (κ := .chn) (d := some 7) (r := [(3, .chn), (7, .chn), (8, .qui), (9, .seq)]) (o := .cells #[] 3 (0, 0)) (v := fun b => .slice (some ⟨b, 0, none⟩) 0 0) (fun b => by as_aux_lemma => kernel_rfl) (nofun) H ?_
   intro E _ H
   refine RW.appendN (κ := .chn) (d := some 6) (r := [(7, .chn), (8, .qui), (9, .seq)]) (T := 26) (ty := 26) (e := 3) (m := 1) (by_ := 8) (a0 := (some ⟨B, 0, none⟩)) (a2 := a) (l2 := C.voters.length) (c2 := f) (by as_aux_lemma => kernel_rfl) (nofun) (.inr ⟨_, rfl⟩) (by as_aux_lemma => kernel_rfl) rfl H 0 rfl (by omega) ?_
   intro l n _ H
   refine RW.appendN (κ := .chn) (d := some 10) (r := [(8, .qui), (9, .seq)]) (T := 26) (ty := 26) (e := 3) (m := 1) (by_ := 8) (a0 := (some ⟨E, 0, none⟩)) (a2 := g) (l2 := C.learners.length) (c2 := i) (by as_aux_lemma => kernel_rfl) (nofun) (.inr ⟨_, rfl⟩) (by as_aux_lemma => kernel_rfl) rfl H 2 rfl (by omega) ?_
   intro p q _ H
   refine uP 1 ?_
   refine uW 28 0 #[.slice l C.voters.length n, .slice p C.learners.length q] H 2 rfl ?_
   intro _ H
   refine qF 0 [(2, .P I 0)] ?_
   refine qRB (.agg #[.slice l C.voters.length n, .slice p C.learners.length q]) Tryz.func41 (v1 (.cell 2 28) (vC (H.cells 2 rfl))) ?_
   exact ⟨_, rfl, H.done, [.slice l C.voters.length n, .slice p C.learners.length q], rfl, H.out (conf_mk (H.rp 1 rfl) (H.rp 0 rfl))⟩
 ·
  refine RT.leaf' [(4, .chn), (0, .chn), (3, .chn), (7, .chn), (8, .qui), (9, .seq)] (by as_aux_lemma => kernel_rfl) ?_
  refine RW.new (κ := .chn) (d := some 7) (r := [(0, .chn), (3, .chn), (7, .chn), (8, .qui), (9, .seq)]) (o := .cells #[] 3 (0, 0)) (v := fun b => .slice (some ⟨b, 0, none⟩) 0 0) (fun b => by as_aux_lemma => kernel_rfl) (nofun) H ?_
  intro F _ H
  refine RW.new (κ := .chn) (d := some 3) (r := [(3, .chn), (7, .chn), (8, .qui), (9, .seq)]) (o := .cells #[] 3 (0, 0)) (v := fun b => .slice (some ⟨b, 0, none⟩) 0 0) (fun b => by as_aux_lemma => kernel_rfl) (nofun) H ?_
  intro G _ H
  refine RW.appendN (κ := .chn) (d := some 6) (r := [(7, .chn), (8, .qui), (9, .seq)]) (T := 26) (ty := 26) (e := 3) (m := 1) (by_ := 8) (a0 := (some ⟨G, 0, none⟩)) (a2 := a) (l2 := C.voters.length) (c2 := f) (by as_aux_lemma => kernel_rfl) (nofun) (.inr ⟨_, rfl⟩) (by as_aux_lemma => kernel_rfl) rfl H 0 rfl (by omega) ?_
  intro s t _ H
  refine RW.appendN (κ := .chn) (d := some 10) (r := [(8, .qui), (9, .seq)]) (T := 26) (ty := 26) (e := 3) (m := 1) (by_ := 8) (a0 := (some ⟨F, 0, none⟩)) (a2 := g) (l2 := C.learners.length) (c2 := i) (by as_aux_lemma => kernel_rfl) (nofun) (.inr ⟨_, rfl⟩) (by as_aux_lemma => kernel_rfl) rfl H 2 rfl (by omega) ?_
  intro u x _ H
  refine uP 1 ?_
  refine uW 28 0 #[.slice s C.voters.length t, .slice u C.learners.length x] H 2 rfl ?_
  intro _ H
  refine uF 0 ?_
  refine qRB (.agg #[.slice s C.voters.length t, .slice u C.learners.length x]) Tryz.func41 (v1 (.cell 2 28) (vC (H.cells 2 rfl))) ?_
  exact ⟨_, rfl, H.done, [.slice s C.voters.length t, .slice u C.learners.length x], rfl, H.out (conf_mk (H.rp 1 rfl) (H.rp 0 rfl))⟩
end Go.Proofs.YtkjkmogipidkiaaGreat
