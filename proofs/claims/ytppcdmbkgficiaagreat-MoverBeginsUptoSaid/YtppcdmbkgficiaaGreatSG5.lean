import Derived.Test.YtppcdmbkgficiaaGreatSBxB
import Derived.Test.YtppcdmbkgficiaaGreatSG4
import Derived.Test.YtppcdmbkgficiaaGreatSBxA
namespace Go.Proofs.YtppcdmbkgficiaaGreat
open Go.BX
def headsOf (id : CID) (size k : Nat) (cs : List (List (BitVec 8))) : List Hdr := cs.mapIdx fun i c => ⟨⟨id.version, (i : Int), id.epoch⟩, (k : Int), (cs.length : Int), (size : Int), crcF c⟩
theorem headsOf_len {id : CID} {size k : Nat} {cs : List (List (BitVec 8))} : (headsOf id size k cs).length = cs.length := by simp [headsOf]
theorem headsOf_get {id : CID} {size k i : Nat} {cs : List (List (BitVec 8))} (h : i < cs.length) : (headsOf id size k cs)[i]? = some ⟨⟨id.version, (i : Int), id.epoch⟩, (k : Int), (cs.length : Int), (size : Int), crcF cs[i]⟩ := by
 simp [headsOf, h]
theorem heads_ok {S : Nat → Prop} {w : World} {cs : List (List (BitVec 8))} {ac : Option Addr} {kc : Nat} {id : CID} {ids : List Value} (size k : Nat) (h : (Shape.slice SB).rep S w [.slice ac cs.length kc] cs) (hid : cidS.rep S w ids id) (hs : size ≤ 65536) (hk : 1 ≤ k) (hkn : k ≤ cs.length) (hn : cs.length ≤ 255) (hall : ∀ c ∈ cs, c.length = lenOf size k) :
 Calls Tryz.prog 42 #[.slice ac cs.length kc, .agg ids.toArray, .I size, .I k] w (Ret fun v w' => Ext w w' ∧ ∃ (a : Option Addr) (c : Nat), v = .tuple #[.slice a (headsOf id size k cs).length c, .I 0] ∧ (Shape.slice hdrS).rep (Nw S w) w' [.slice a (headsOf id size k cs).length c] (headsOf id size k cs)) := by
 obtain ⟨rfl, _, _, _⟩ := cid_open hid
 refine uS1 Tryz.func42 ?_
 have H := Hp.startF (.rp h .nil)
 refine uR 1 [.c [0], .c [1]] ?_
 refine qG (sq 0 3) ?_
 refine uC #[.int .u64 id.version, .I id.index, .int .u64 id.epoch] 82 H ?_
 intro t _ H
 refine uF 2 ?_
 refine uR 1 [.c [1, 0], .c [2]] ?_
 refine qG (sq 0 10) ?_
 refine uP 4 ?_
 refine uK (sizes_ok (S := fun _ => True) size k cs.length (by omega) (by omega) (by omega) (by omega)) ?_
 rintro _ _ y rfl
 have H := H.ext y
 refine uF 5 ?_
 refine uR 11 [.c [4, 0, 1, 0], .b 0, .c [5]] ?_
 have H := H.ownNil hdrS 84
 refine uL (α := Nat × Int × Option Addr × Nat) (g := 42) (p := [4, 0, 1, 0, 0]) (fun (i, x, ao, co) => [(0, .slice ac cs.length kc), (2, .I size), (3, .I k), (5, .P t 0), (10, .I ((lenOf size k : Nat) : Int)), (12, .slice ao (((headsOf id size k cs).take i).length) co), (26, .slice ac cs.length kc), (27, .I ((cs.length : Nat) : Int)), (28, .I i)]) (fun (i, x, ao, co) w' => Hp w S [] [(t, .cells #[.int .u64 id.version, .I x, .int .u64 id.epoch] 82 (0, 0))] [⟨hdrS, 84, .slice ao (((headsOf id size k cs).take i).length) co, (headsOf id size k cs).take i⟩] [Rp (Shape.slice SB) [.slice ac cs.length kc] cs] w' ∧ i ≤ cs.length) (fun (i, x, ao, co) => cs.length - i) (0, id.index, none, 0) ⟨H, Nat.zero_le _⟩ ?_
 rintro ⟨i, x, ao, co⟩ _ ⟨H, _⟩ e
 refine uR 3 [.c [4, 0, 1, 0, 0, 1, 0], .c [4, 0, 1, 0, 0, 2], .l [4, 0, 1, 0, 0], .b 0, .c [5]] ?_
 refine qD (((i : Int) : Int) < ((cs.length : Nat) : Int)) (fun E => ?_) (fun E => ?_)
 ·
  refine uR 4 [.c [4, 0, 1, 0, 0, 2, 0, 0, 0], .c [4, 0, 1, 0, 0, 2, 0, 0, 1], .b 1, .c [4, 0, 1, 0, 0, 3], .l [4, 0, 1, 0, 0], .b 0, .c [5]] ?_
  refine qG (sq 0 5) ?_
  refine uP 1 ?_
  have z : i < cs.length := by omega
  refine uX 42 (i : Int) H 0 rfl i (by omega) (List.getElem?_eq_getElem z) ?_
  intro F A _ f H
  obtain ⟨B, C, rfl⟩ := Shape.slice_form' f
  have H := H.addR f
  refine uV 62 0 (H.fc 1 rfl) ?_
  refine uF 2 ?_
  refine uR 3 [.c [4, 0, 1, 0, 0, 2, 0, 0, 1, 0, 1], .c [4, 0, 1, 0, 0, 2, 0, 0, 2], .b 1, .c [4, 0, 1, 0, 0, 3], .l [4, 0, 1, 0, 0], .b 0, .c [5]] ?_
  refine qN (((cs[i]).length : Nat) : Int) ((lenOf size k : Nat) : Int) (fun j => ?_) (fun j => ?_)
  ·
   exact absurd (congrArg (fun q : Nat => (q : Int)) (hall (cs[i]) (List.getElem_mem _))) j
  ·
   refine uR 2 [.c [4, 0, 1, 0, 0, 2, 0, 0, 2, 0], .c [4, 0, 1, 0, 0, 2, 0, 0, 3], .b 1, .c [4, 0, 1, 0, 0, 3], .l [4, 0, 1, 0, 0], .b 0, .c [5]] ?_
   refine qG (sq 0 3) ?_
   refine uP 2 ?_
   refine uW 3 1 #[.int .u64 id.version, .I i, .int .u64 id.epoch] H 0 rfl ?_
   intro m H
   refine uF 0 ?_
   refine WK.draw1 10 [(0, .qui), (1, .qui), (2, .qui), (3, .qui), (4, .qui), (5, .qui), (6, .qui), (7, .chn), (8, .qui), (9, .chn)] [(0, .qui), (1, .qui), (2, .qui), (3, .qui), (4, .qui), (5, .qui), (6, .qui), (7, .chn), (8, .qui), (9, .chn), (10, .seq), (11, .seq)] Try_mixed (by as_aux_lemma => kernel_rfl) (by as_aux_lemma => kernel_rfl) (by as_aux_lemma => kernel_rfl) ?_
   have H := H.draw
   generalize ({ m with drawn := m.drawn + 1 } : World) = G at H ⊢
   refine uP 1 ?_
   refine uV 82 0 (H.cells 0 rfl) ?_
   refine uP 5 ?_
   refine uK (crc_spec (H.rp 0 rfl)) ?_
   rintro _ _ u rfl
   have H := H.ext u
   refine qP 1 [(9, .chn), (10, .seq), (11, .seq)] [(0, .slice ac cs.length kc), (2, .I size), (3, .I k), (5, .P t 0), (10, .I ((lenOf size k : Nat) : Int)), (12, .slice ao (((headsOf id size k cs).take i).length) co), (26, .slice ac cs.length kc), (27, .I ((cs.length : Nat) : Int)), (28, .I i), (39, .slice ao (((headsOf id size k cs).take i).length) co), (47, .agg #[.int .u64 id.version, .I i, .int .u64 id.epoch, .I k, .I ((cs.length : Nat) : Int), .I size, .int .u32 (((crcF (cs[i])).toNat : Nat) : Int)])] ?_
   refine RW.new (κ := .chn) (d := some 48) (r := [(10, .seq), (11, .seq)]) (o := .cells #[.int .u64 id.version, .I i, .int .u64 id.epoch, .I k, .I ((cs.length : Nat) : Int), .I size, .int .u32 (((crcF (cs[i])).toNat : Nat) : Int)] 84 (0, 0)) (v := fun b => .slice (some ⟨b, 0, none⟩) 1 1) (fun b => by as_aux_lemma => kernel_rfl) (nofun) H ?_
   intro D _ H
   have H := H.freeze 0 rfl hdrS ([⟨⟨id.version, (i : Int), id.epoch⟩, (k : Int), ((cs.length : Nat) : Int), (size : Int), crcF (cs[i])⟩] : List Hdr) 1 (by simp [maxLen]) (by first | exact Nat.le_refl _ | simp) (EsP.cons (c := [.int .u64 id.version, .I i, .int .u64 id.epoch, .I k, .I ((cs.length : Nat) : Int), .I size, .int .u32 (((crcF (cs[i])).toNat : Nat) : Int)]) (hdr_mk (cid_mk u64a i64a u64a) i64a i64a i64a Shape.bv_mk) EsP.nil)
   have H : Hp w S [] [_] [_] [Rp (Shape.slice hdrS) [.slice (some ⟨D, 0, none⟩) 1 1] ([⟨⟨id.version, (i : Int), id.epoch⟩, (k : Int), ((cs.length : Nat) : Int), (size : Int), crcF (cs[i])⟩] : List Hdr), _, Fc F A [.slice B (cs[i]).length C], _] _ := H
   refine uA 41 41 56 ((headsOf id size k cs).take (i + 1)) H 0 rfl 0 rfl (take_snoc (headsOf_get (by omega))) (by rw [List.length_take]; omega) ?_
   intro n s _ H _
   have H : Hp w S [] [_] [⟨hdrS, 84, .slice n (((headsOf id size k cs).take (i + 1)).length) s, (headsOf id size k cs).take (i + 1)⟩] [_, _, _, _] _ := H
   refine uF 1 ?_
   refine uR 1 [.c [4, 0, 1, 0, 0, 3], .l [4, 0, 1, 0, 0], .b 0, .c [5]] ?_
   refine qG (sq 0 2) ?_
   refine uI ((i : Int) + 1) ?_
   refine uF 1 ?_
   have H := H.pick [3] rfl
   exact uB (e (i + 1, (i : Int), n, s) _ ⟨H, by omega⟩ (by first | omega | (simp only []; omega)))
 ·
  refine uR 3 [.c [6]] ?_
  refine qT (.tuple #[.slice ao (((headsOf id size k cs).take i).length) co, .I 0]) Tryz.func42 ?_
  have H : Hp w S [] [_] [] [Rp (Shape.slice hdrS) [.slice ao (((headsOf id size k cs).take i).length) co] ((headsOf id size k cs).take i), _] _ := H.freezeW 0 rfl
  rw [List.take_of_length_le (by rw [headsOf_len]; omega)] at H ⊢
  exact ⟨_, rfl, H.done, _, _, rfl, H.out (H.rp 0 rfl)⟩
theorem take_succ_mem {xs : List Int} {k : Nat} (hk : k < xs.length) {x : Int} : x ∈ xs.take (k + 1) ↔ x ∈ xs.take k ∨ x = xs[k] := by
 rw [List.take_succ_eq_append_getElem hk, List.mem_append, List.mem_singleton]
theorem index_spec {S : Nat → Prop} {w : World} {xs : List Int} {a : Option Addr} {c : Nat} (x : Int) (h : (Shape.slice (.int .i64)).rep S w [.slice a xs.length c] xs) :
 Calls Tryz.prog 56 #[.slice a xs.length c, .I x] w (Ret fun v w' => Ext w w' ∧ ∃ i : Int, v = .I i ∧ (0 ≤ i ↔ x ∈ xs)) := by
 have hlen := Shape.slice_len h
 refine uS1 Tryz.func56 ?_
 have H := Hp.startF (.rp h .nil)
 refine uR 6 [.c [1, 0, 1, 0], .b 0, .c [2]] ?_
 refine uL (α := Nat) (g := 56) (p := [1, 0, 1, 0, 0]) (fun k => [(0, .slice a xs.length c), (1, .I x), (7, .I ((xs.length : Nat) : Int)), (8, .I k)]) (fun k w' => Hp w S [] [] [] [Rp (Shape.slice (Shape.int .i64)) [.slice a xs.length c] xs] w' ∧ k ≤ xs.length ∧ x ∉ xs.take k) (fun k => xs.length - k) 0 ⟨H, by simp⟩ ?_
 rintro k _ ⟨H, d⟩ e
 refine uR 3 [.c [1, 0, 1, 0, 0, 1, 0], .c [1, 0, 1, 0, 0, 2], .l [1, 0, 1, 0, 0], .b 0, .c [2]] ?_
 refine qD (((k : Int) : Int) < ((xs.length : Nat) : Int)) (fun n => ?_) (fun n => ?_)
 ·
  refine uR 6 [.c [1, 0, 1, 0, 0, 2, 0, 0, 1, 0], .c [1, 0, 1, 0, 0, 2, 0, 0, 2], .b 1, .c [1, 0, 1, 0, 0, 3], .l [1, 0, 1, 0, 0], .b 0, .c [2]] ?_
  refine qG (sq 0 6) ?_
  refine uP 3 ?_
  have j : k < xs.length := by omega
  refine uX 24 (k : Int) H 0 rfl k (by omega) (List.getElem?_eq_getElem j) ?_
  intro _ _ _ f H
  have o := Shape.i64_bd f
  obtain ⟨rfl, -⟩ := f
  refine uV 3 0 (H.fc 0 rfl) ?_
  refine uF 1 ?_
  refine qE x (xs[k]) (fun m => ?_) (fun m => ?_)
  ·
   refine uR 2 [.c [1, 0, 1, 0, 0, 2, 0, 0, 2, 0, 1], .b 1, .c [1, 0, 1, 0, 0, 3], .l [1, 0, 1, 0, 0], .b 0, .c [2]] ?_
   refine qT (.I k) Tryz.func56 ?_
   exact ⟨_, rfl, H.done, _, rfl, fun _ => by subst_vars; exact List.getElem_mem _, fun _ => by omega⟩
  ·
   refine uR 2 [.c [1, 0, 1, 0, 0, 3], .l [1, 0, 1, 0, 0], .b 0, .c [2]] ?_
   refine qG (sq 0 2) ?_
   refine uI ((k : Int) + 1) ?_
   refine uF 1 ?_
   have H := H.pick [1] rfl
   exact uB (e (k + 1) _ ⟨H, by omega, fun hm => by rcases (take_succ_mem (by omega)).1 hm with hm | hm; exact d.2 hm; exact absurd hm (by assumption)⟩ (by first | omega | (simp only []; omega)))
 ·
  refine uR 3 [.c [3]] ?_
  refine qT (.I (-1)) Tryz.func56 ?_
  exact ⟨_, rfl, H.done, _, rfl, fun h => absurd h (by omega), fun h => absurd (by rw [List.take_of_length_le (by omega)]; exact h) d.2⟩
theorem contains_spec {S : Nat → Prop} {w : World} {xs : List Int} {a : Option Addr} {c : Nat} (x : Int) (h : (Shape.slice (.int .i64)).rep S w [.slice a xs.length c] xs) :
 Calls Tryz.prog 32 #[.slice a xs.length c, .I x] w (Ret fun v w' => Ext w w' ∧ v = .bool (decide (x ∈ xs))) := by
 refine uS1 Tryz.func32 ?_
 have H := Hp.startF (.rp h .nil)
 refine uR 3 [.c [1, 0], .c [2]] ?_
 refine qG (sq 0 5) ?_
 refine uP 2 ?_
 refine uK (index_spec x (H.rp 0 rfl)) ?_
 rintro _ _ hE ⟨ix, rfl, hix⟩
 have H := H.ext hE
 refine uF 2 ?_
 refine qT (.bool (decide ((ix : Int) ≥ 0))) Tryz.func32 ?_
 refine ⟨_, rfl, H.done, ?_⟩
 congr 1
 exact decide_eq_decide.2 hix
theorem clone_nil {S : Nat → Prop} {w : World} {xs : List Int} {c : Nat} (h : (Shape.slice (Shape.int .i64)).rep S w [.slice none xs.length c] xs) (hby : xs.length * 8 ≤ 140737488355328) :
 Calls Tryz.prog 15 #[.slice none xs.length c] w (Ret fun v w' => Ext w w' ∧ Hp w S [] [] [⟨Shape.int .i64, 3, v, xs⟩] [] w') := by
 have hx := Shape.slice_none h
 refine uS1 Tryz.func15 ?_
 have H := Hp.startF (.rp h .nil)
 refine uR 8 [.c [1, 0, 1, 0, 1], .c [2]] ?_
 refine qT (.slice none 0 0) Tryz.func15 ?_
 subst hx
 exact ⟨_, rfl, H.done, (H.pick [] rfl).ownNil (Shape.int .i64) 3⟩
theorem clone_some {S : Nat → Prop} {w : World} {xs : List Int} {a : Addr} {c : Nat} (h : (Shape.slice (Shape.int .i64)).rep S w [.slice (some a) xs.length c] xs) (hby : xs.length * 8 ≤ 140737488355328) :
 Calls Tryz.prog 15 #[.slice (some a) xs.length c] w (Ret fun v w' => Ext w w' ∧ Hp w S [] [] [⟨Shape.int .i64, 3, v, xs⟩] [] w') := by
 refine uS1 Tryz.func15 ?_
 have H := Hp.startF (.rp h .nil)
 refine uR 8 [.c [2, 0], .c [3]] ?_
 refine qG (sq 0 4) ?_
 refine RW.new (κ := .seq) (d := some 5) (r := (sq 1 4)) (o := .cells #[] 3 (0, 0)) (v := fun b => .slice (some ⟨b, 0, none⟩) 0 0) (fun b => by as_aux_lemma => kernel_rfl) (nofun) H ?_
 intro g _ H
 refine uP 1 ?_
 have H := H.toOwn (sh := Shape.int .i64) (xs := []) (cap := 0) (by rfl) (Nat.le_refl _) (Nat.zero_le _) (by simp) EsP.nil
 have H : Hp w S [] [] [⟨Shape.int .i64, 3, .slice (some ⟨g, 0, none⟩) 0 0, []⟩] [_] _ := H
 refine uA 24 24 8 xs H 0 rfl 0 rfl (rfl) (by omega) ?_
 intro e f _ H _
 have H : Hp w S [] [] [⟨Shape.int .i64, 3, .slice e xs.length f, xs⟩] [_] _ := H
 refine uF 1 ?_
 refine qT (.slice e xs.length f) Tryz.func15 ?_
 exact ⟨_, rfl, H.done, H.pick [] rfl⟩
theorem clone_spec {S : Nat → Prop} {w : World} {xs : List Int} {a : Option Addr} {c : Nat} (h : (Shape.slice (Shape.int .i64)).rep S w [.slice a xs.length c] xs) (hby : xs.length * 8 ≤ 140737488355328) :
 Calls Tryz.prog 15 #[.slice a xs.length c] w (Ret fun v w' => Ext w w' ∧ Hp w S [] [] [⟨Shape.int .i64, 3, v, xs⟩] [] w') := by
 cases a with
 | none => exact clone_nil h hby
 | some a => exact clone_some h hby
theorem bclone_nil {S : Nat → Prop} {w : World} {xs : List (BitVec 8)} {c : Nat} (h : SB.rep S w [.slice none xs.length c] xs) (hby : xs.length * 1 ≤ 140737488355328) :
 Calls Tryz.prog 47 #[.slice none xs.length c] w (Ret fun v w' => Ext w w' ∧ Hp w S [] [] [⟨Sb, 5, v, xs⟩] [] w') := by
 have hx := Shape.slice_none h
 refine uS1 Tryz.func47 ?_
 have H := Hp.startF (.rp h .nil)
 refine uR 8 [.c [1, 0, 1, 0, 1], .c [2]] ?_
 refine qT (.slice none 0 0) Tryz.func47 ?_
 subst hx
 exact ⟨_, rfl, H.done, (H.pick [] rfl).ownNil Sb 5⟩
theorem bclone_some {S : Nat → Prop} {w : World} {xs : List (BitVec 8)} {a : Addr} {c : Nat} (h : SB.rep S w [.slice (some a) xs.length c] xs) (hby : xs.length * 1 ≤ 140737488355328) :
 Calls Tryz.prog 47 #[.slice (some a) xs.length c] w (Ret fun v w' => Ext w w' ∧ Hp w S [] [] [⟨Sb, 5, v, xs⟩] [] w') := by
 refine uS1 Tryz.func47 ?_
 have H := Hp.startF (.rp h .nil)
 refine uR 8 [.c [2, 0], .c [3]] ?_
 refine qG (sq 0 4) ?_
 refine RW.new (κ := .seq) (d := some 5) (r := (sq 1 4)) (o := .cells #[] 5 (0, 0)) (v := fun b => .slice (some ⟨b, 0, none⟩) 0 0) (fun b => by as_aux_lemma => kernel_rfl) (nofun) H ?_
 intro g _ H
 refine uP 1 ?_
 have H := H.toOwn (sh := Sb) (xs := []) (cap := 0) (by rfl) (Nat.le_refl _) (Nat.zero_le _) (by simp) EsP.nil
 have H : Hp w S [] [] [⟨Sb, 5, .slice (some ⟨g, 0, none⟩) 0 0, []⟩] [_] _ := H
 refine uA 62 62 1 xs H 0 rfl 0 rfl (rfl) (by omega) ?_
 intro e f _ H _
 have H : Hp w S [] [] [⟨Sb, 5, .slice e xs.length f, xs⟩] [_] _ := H
 refine uF 1 ?_
 refine qT (.slice e xs.length f) Tryz.func47 ?_
 exact ⟨_, rfl, H.done, H.pick [] rfl⟩
theorem bclone_spec {S : Nat → Prop} {w : World} {xs : List (BitVec 8)} {a : Option Addr} {c : Nat} (h : SB.rep S w [.slice a xs.length c] xs) (hby : xs.length * 1 ≤ 140737488355328) :
 Calls Tryz.prog 47 #[.slice a xs.length c] w (Ret fun v w' => Ext w w' ∧ Hp w S [] [] [⟨Sb, 5, v, xs⟩] [] w') := by
 cases a with
 | none => exact bclone_nil h hby
 | some a => exact bclone_some h hby
end Go.Proofs.YtppcdmbkgficiaaGreat
