import Derived.Test.YtdnibpclkhenmaaGreatDoorSBxB
import Derived.Test.YtdnibpclkhenmaaGreatDoorSVA
import Derived.Test.YtdnibpclkhenmaaGreatDoorSVW
import Derived.Test.YtdnibpclkhenmaaGreatDoorSV7
namespace Go.Proofs.YtdnibpclkhenmaaGreatDoor
open Go.BX
open Go.Proofs
open Go.RowKit Go.Shelf
theorem asC_c {w0 w : World} {S : Nat → Prop} {O : List Nat} {b tb c : Nat} {M : Heap} {W : List OwnS} {G : List Fact} {L : VL} (H : Hp w0 S O ((b, .cells #[.map (some tb)] 117 (0, 0)) :: (tb, mapO cidV veV L c) :: M) W G w) (hM : MOk L c) (hk : ∀ x ∈ L, CidOk x.1) (hl : L.length ≤ 1048576) :
 Calls Tryz.prog 192 #[.slice none 0 0, .func (.func 152) #[] #[.P b 0]] w (Ret fun v w' => ∃ (a : Option Addr) (cp : Nat) (ss : List CID), ss.Perm (L.map (·.1)) ∧ v = .slice a ss.length cp ∧ Hp w0 S O ((b, .cells #[.map (some tb)] 117 (0, 0)) :: (tb, mapO cidV veV L c) :: M) (⟨cidS, 82, .slice a ss.length cp, ss⟩ :: W) G w') := by
 have d := (H.own _ (List.mem_cons_self ..)).1
 have f := (H.own _ (List.mem_cons_of_mem _ (List.mem_cons_self ..))).1
 have hlt := (Array.getElem?_eq_some_iff.1 d).1
 have g := (Array.getElem?_eq_some_iff.1 f).1
 have cA := appendSeqC_in Fence.wide 5 trivial trivial rfl (by decide) b L.length (fun ss => ss.Perm (L.map (·.1))) (fun ss h => by rw [h.length_eq, List.length_map]; exact Nat.le_refl _) hl w
  fun w' hw => keysC_stops Fence.wide 4 trivial rfl (by decide) b tb c L hM w' (Nat.lt_of_lt_of_le hlt hw.size) ((hw.cell (p := ⟨b, 0, none⟩) hlt).trans (by simp [World.cell?, d])) ((hw.block tb g).trans f)
 refine ((callsIn_wide (n := 5)).1 cA).mono fun e w' hh => ?_
 obtain ⟨v, ss, rfl, hS, hrow, hB⟩ := hh
 have hE : Ext w w' := hB
 have H' := row_own (St := Av S w0 O (idsOf ([] ++ ((b, .cells #[.map (some tb)] 117 (0, 0)) :: (tb, mapO cidV veV L c) :: M)) ([] ++ W))) hE hrow (fun x hx => by
  obtain ⟨y, hy, rfl⟩ := List.mem_map.1 (hS.mem_iff.1 hx)
  exact hk y hy)
 have i := Hp.back (M1 := []) (W1 := []) H H'
 obtain ⟨a, cp, rfl, _, _⟩ := i.ownForm 0 rfl
 exact ⟨_, rfl, a, cp, ss, hS, rfl, i⟩
def rotL (s : VC) (id : CID) : Bool := match mfind id s with
 | some c => decide (wholeE c.head c.data ≠ 0)
 | none => false
theorem rotL_some {s : VC} {id : CID} {c : Chk} (h : mfind id s = some c) : rotL s id = decide (wholeE c.head c.data ≠ 0) := by
 unfold rotL
 rw [h]
theorem key_find {L : VL} {ids : List CID} (hp : ids.Perm (L.map (·.1))) {i : Nat} (hi : i < ids.length) : ∃ c a k, mfind ids[i] L = some ⟨c, a, k⟩ := by
 cases h : mfind ids[i] L with
 | none => exact absurd (hp.mem_iff.1 (List.getElem_mem hi)) (mfind_none.1 h)
 | some e => obtain ⟨c, a, k⟩ := e; exact ⟨c, a, k, rfl⟩
theorem filter_step {p : CID → Bool} {ids : List CID} {i : Nat} (hi : i < ids.length) : (ids.take (i + 1)).filter p = (ids.take i).filter p ++ if p ids[i] then [ids[i]] else [] := by
 rw [List.take_succ_eq_append_getElem hi, List.filter_append]
 congr 1
 cases h : p ids[i] <;> simp [h]
theorem vkeys_spec {S : Nat → Prop} {w : World} (m : Option Nat) :
 Calls Tryz.prog 98 #[.map m] w (Ret fun v w' => Ext w w' ∧ ∃ b : Nat, v = .func (.func 152) #[] #[.P b 0] ∧ Hp w S [] [(b, .cells #[.map m] 117 (0, 0))] [] [] w') := by
 refine uS1 Tryz.func98 ?_
 have H := Hp.startF (w := w) (S := S) (G := []) .nil
 refine uR 1 [.c [0], .c [1]] ?_
 refine qG (sq 0 2) ?_
 refine uC #[.map m] 117 H ?_
 intro a _ H
 refine uF 1 ?_
 refine uR 2 [.c [2]] ?_
 refine qT (.func (.func 152) #[] #[.P a 0]) Tryz.func98 ?_
 exact ⟨_, rfl, H.done, _, rfl, H⟩
theorem vcollect_spec {S : Nat → Prop} {w : World} {O : List Nat} {bx mb c : Nat} {L : VL} (hM : MOk L c) (hk : ∀ x ∈ L, CidOk x.1) (hl : L.length ≤ 1048576) (H0 : Hp w S O [(bx, .cells #[.map (some mb)] 117 (0, 0)), (mb, mapO cidV veV L c)] [] [] w) :
 Calls Tryz.prog 150 #[.func (.func 152) #[] #[.P bx 0]] w (Ret fun v w' => ∃ (a' : Option Addr) (c' : Nat) (ids : List CID), ids.Perm (L.map (·.1)) ∧ v = .slice a' ids.length c' ∧ Hp w S O [(bx, .cells #[.map (some mb)] 117 (0, 0)), (mb, mapO cidV veV L c)] [⟨cidS, 82, .slice a' ids.length c', ids⟩] [] w') := by
 refine uS1 Tryz.func150 ?_
 have H := H0
 refine uR 3 [.c [1, 0], .c [2]] ?_
 refine qG (sq 0 3) ?_
 refine uP 1 ?_
 have H := H.frontM 1 rfl
 have H := H.frontM 1 rfl
 refine uKS (asC_c H hM hk hl) ?_
 rintro _ _ ⟨d, e, a, b, rfl, H⟩
 have H : Hp w S O [_, _] [⟨cidS, 82, .slice d a.length e, a⟩] [] _ := H
 refine uF 1 ?_
 refine qT (.slice d a.length e) Tryz.func150 ?_
 exact ⟨_, rfl, _, _, _, b, rfl, H⟩
theorem vsorted_yes {S : Nat → Prop} {w : World} {O : List Nat} {bx mb c : Nat} {L : VL} (hM : MOk L c) (hk : ∀ x ∈ L, CidOk x.1) (hl : L.length ≤ 1048576) (hp0 : 0 < L.length) (H0 : Hp w S O [(bx, .cells #[.map (some mb)] 117 (0, 0)), (mb, mapO cidV veV L c)] [] [] w) :
 Calls Tryz.prog 97 #[.func (.func 152) #[] #[.P bx 0], .func (.func 99) #[] #[]] w (Ret fun v w' => ∃ (a' : Option Addr) (c' : Nat) (ids : List CID), ids.Perm (L.map (·.1)) ∧ v = .slice a' ids.length c' ∧ Hp w S O [(bx, .cells #[.map (some mb)] 117 (0, 0)), (mb, mapO cidV veV L c)] [⟨cidS, 82, .slice a' ids.length c', ids⟩] [] w') := by
 refine uS1 Tryz.func97 ?_
 have H := H0
 refine uR 3 [.c [1, 0], .c [2]] ?_
 refine qG (sq 0 3) ?_
 refine uP 1 ?_
 have H := H.frontM 1 rfl
 have H := H.frontM 1 rfl
 refine uKS (vcollect_spec hM hk hl ((H.lend (M1 := [_, _]) (W1 := [])).pick [] rfl)) ?_
 rintro _ _ ⟨h, f, a, b, rfl, H'⟩
 have H := H.back (M1 := [_, _]) (W1 := []) H'
 have H : Hp w S O [_, _] [⟨cidS, 82, .slice h a.length f, a⟩] [] _ := H
 refine uF 1 ?_
 refine uR 1 [.c [2, 0], .c [3]] ?_
 refine qG (sq 0 3) ?_
 refine uP 2 ?_
 obtain ⟨g, rfl⟩ := H.ownAddr (by rw [b.length_eq, List.length_map]; exact hp0)
 have H : Hp w S O [_, _] [⟨cidS, 82, .slice (some ⟨g, 0, none⟩) a.length f, a⟩] [] _ := H
 refine uKS (sort_cid ((H.lend (M1 := []) (W1 := [_])).pick [] rfl) (by rw [b.length_eq, List.length_map]; exact hp0) (by rw [b.length_eq, List.length_map]; omega)) ?_
 rintro _ _ ⟨rfl, d, e, H'⟩
 have H := H.back (M1 := []) (W1 := [_]) H'
 rw [show a.length = d.length from e.length_eq.symm] at H ⊢
 have H : Hp w S O [_, _] [⟨cidS, 82, .slice (some ⟨g, 0, none⟩) d.length f, d⟩] [] _ := H
 refine uF 0 ?_
 refine uR 2 [.c [4]] ?_
 refine qT (.slice (some ⟨g, 0, none⟩) d.length f) Tryz.func97 ?_
 exact ⟨_, rfl, _, _, _, (e.trans b), rfl, H⟩
end Go.Proofs.YtdnibpclkhenmaaGreatDoor
