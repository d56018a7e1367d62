import Derived.Test.YtekgjnblidjloaaN1
namespace Go.Proofs.Ytekgjnblidjloaa
open Go.BX

/-! ### A file that others leave alone -/
def padTo (l : List (BitVec 8)) (k : Nat) : List (BitVec 8) := (List.range 64).map fun i => if i < k then l.getD i 0#8 else 0#8
theorem padTo_len (l : List (BitVec 8)) (k : Nat) : (padTo l k).length = 64 := by simp [padTo]
theorem padTo_zero (l : List (BitVec 8)) : List.replicate 64 (0#8 : BitVec 8) = padTo l 0 := by
 apply List.ext_getElem
 · rw [padTo_len, List.length_replicate]
 · intro i h1 h2
   simp only [padTo, List.getElem_map, List.getElem_range, List.getElem_replicate]
   rw [if_neg (by omega)]
theorem padTo_step {l : List (BitVec 8)} {k : Nat} (h : k < l.length) : (padTo l k).set k l[k] = padTo l (k + 1) := by
 apply List.ext_getElem
 · simp [padTo]
 · intro i h1 h2
   rw [List.getElem_set]
   simp only [padTo, List.getElem_map, List.getElem_range]
   by_cases hi : k = i
   · subst hi
     rw [if_pos rfl, if_pos (by omega), List.getD_eq_getElem?_getD, List.getElem?_eq_getElem h]
     rfl
   · rw [if_neg hi]
     by_cases h3 : i < k
     · rw [if_pos h3, if_pos (by omega)]
     · rw [if_neg h3, if_neg (by omega)]
theorem padTo_end {l : List (BitVec 8)} {k : Nat} (h : 64 ≤ k ∨ l.length ≤ k) : padTo l k = padTo l 64 := by
 apply List.ext_getElem
 · simp [padTo]
 · intro i h1 h2
   have hi : i < 64 := by simpa [padTo] using h1
   simp only [padTo, List.getElem_map, List.getElem_range]
   by_cases h3 : i < k
   · rw [if_pos h3, if_pos hi]
   · rw [if_neg h3, if_pos hi, List.getD_eq_getElem?_getD, List.getElem?_eq_none (by omega)]
     rfl
structure Apart (z : ByteArray) (x : Sec) (D : DiskD) : Prop where
 ok : DOk D
 live : D.dead = false
 off : D.armed = false
 file : ∃ f ∈ D.files, mfind z D.now = some (some f.p) ∧ (∀ y, y ≠ z → mfind y D.now ≠ some (some f.p)) ∧ f.size = 2 ∧ mfind 1 f.now = some x ∧ mfind 0 f.now = none
theorem Apart.first {x y : Nat} {z : ByteArray} {xs : List (BitVec 8)} {e : Int} {D : DiskD} (hs : z.size ≤ maxLen) (hn : nmI z = 1) (hx : xs.length = 64) (h : WriteR (newD x y) z 1 xs e D) : e = 0 ∧ Apart z (secOf xs) D ∧ D.steps.length ≤ 2 := by
 obtain ⟨h1, f, ho, a1, a2, a3, a4, a5, a6, a7, a8, a9⟩ := write_first hn (by decide) hx h
 refine ⟨h1, ⟨WriteR.ok (newD_ok x y) hs h, a7, a6, f, by rw [ho.files]; exact List.mem_cons_self .., ho.find, fun q hq => ?_, by rw [a9]; rfl, ?_, ?_⟩, by rw [a5]; exact Nat.le_refl 2⟩
 · rw [ho.now]
   have : ¬ z = q := fun e => hq e.symm
   simp [mfind, this]
 · rw [a8]; rfl
 · rw [a8]; rfl
section
variable {z : ByteArray} {x : Sec} {D D' : DiskD}
theorem upd_other {fs : List FileD} {f : FileD} {p : Nat} {g : FileD → FileD} (hf : f ∈ fs) (h : f.p ≠ p) : f ∈ updF fs p g := List.mem_map.2 ⟨f, hf, if_neg h⟩
theorem Apart.write (h : Apart z x D) {name : ByteArray} {at_ e : Int} {xs : List (BitVec 8)} (hs : name.size ≤ maxLen) (hne : name ≠ z) (hr : WriteR D name at_ xs e D') : Apart z x D' ∧ D'.steps.length ≤ D.steps.length + 2 := by
 have hok := WriteR.ok h.ok hs hr
 obtain ⟨f, hf, h1, h2, h3, h4, h5⟩ := h.file
 rcases hr with ⟨-, -, rfl⟩ | ⟨-, -, hst, -⟩ | ⟨-, -, -, p, hp, rfl⟩ | ⟨-, -, -, hn, p, s, n, hp, rfl⟩
 · exact ⟨h, by omega⟩
 · exact absurd hst (notStops h.off)
 · have hfp : f.p ≠ p := fun e => h2 name hne (by rw [e]; exact hp)
   refine ⟨⟨hok, h.live, h.off, f, upd_other hf hfp, h1, h2, h3, h4, h5⟩, ?_⟩
   show (D.steps ++ [_]).length ≤ _
   simp
 · have hfp : f.p ≠ p := fun e => hp (by rw [← e]; exact List.mem_map.2 ⟨f, hf, rfl⟩)
   have hnow : (wrNew D p s n name at_ (secOf xs)).now = mset name (some p) D.nc D.now := rfl
   refine ⟨⟨hok, h.live, h.off, f, List.mem_cons_of_mem _ hf, ?_, fun y hy => ?_, h3, h4, h5⟩, ?_⟩
   · rw [hnow, mfind_set, if_neg hne]; exact h1
   · rw [hnow, mfind_set]
     split
     · intro e; simp only [Option.some.injEq] at e; exact hfp e.symm
     · exact h2 y hy
   · show (D.steps ++ [_] ++ [_]).length ≤ _
     simp
theorem Apart.sync (h : Apart z x D) {name : ByteArray} {e : Int} (hne : name ≠ z) (hr : SyncR D name e D') : Apart z x D' ∧ D'.steps.length ≤ D.steps.length + 2 := by
 have hok := SyncR.ok h.ok hr
 obtain ⟨f, hf, h1, h2, h3, h4, h5⟩ := h.file
 rcases hr with ⟨-, -, rfl⟩ | ⟨-, -, hst, -⟩ | ⟨-, -, p, hp, rfl⟩
 · exact ⟨h, by omega⟩
 · exact absurd hst (notStops h.off)
 · have hfp : f.p ≠ p := fun e => h2 name hne (by rw [e]; exact hp)
   refine ⟨⟨hok, h.live, h.off, f, upd_other hf hfp, h1, h2, h3, h4, h5⟩, ?_⟩
   show (leftS p D.steps).length ≤ _
   have := List.length_filter_le (notOf p) D.steps
   unfold leftS
   omega
theorem Apart.remove (h : Apart z x D) {name : ByteArray} {e : Int} (hs : name.size ≤ maxLen) (hne : name ≠ z) (hr : RemoveR D name e D') : Apart z x D' ∧ D'.steps.length ≤ D.steps.length + 2 := by
 have hok := RemoveR.ok h.ok hs hr
 obtain ⟨f, hf, h1, h2, h3, h4, h5⟩ := h.file
 rcases hr with ⟨-, -, rfl⟩ | ⟨-, -, hst, -⟩ | ⟨-, -, -, rfl⟩
 · exact ⟨h, by omega⟩
 · exact absurd hst (notStops h.off)
 · have hnow : (tick (addS D (rmS name))).now = mdel name D.now := rfl
   refine ⟨⟨hok, h.live, h.off, f, hf, ?_, fun y hy => ?_, h3, h4, h5⟩, ?_⟩
   · rw [hnow, mfind_del _ _ h.ok.mnow.keys, if_neg hne]; exact h1
   · rw [hnow, mfind_del _ _ h.ok.mnow.keys]
     split
     · intro e; cases e
     · exact h2 y hy
   · show (D.steps ++ [_]).length ≤ _
     simp
theorem Apart.rename (h : Apart z x D) {name to : ByteArray} {e : Int} (hs : name.size ≤ maxLen) (ht : to.size ≤ maxLen) (hne : name ≠ z) (hte : to ≠ z) (hr : RenameR D name to e D') : Apart z x D' ∧ D'.steps.length ≤ D.steps.length + 2 := by
 have hok := RenameR.ok h.ok hs ht hr
 obtain ⟨f, hf, h1, h2, h3, h4, h5⟩ := h.file
 rcases hr with ⟨-, -, rfl⟩ | ⟨-, -, -, rfl⟩ | ⟨-, -, -, hst, -⟩ | ⟨-, hfn, -, -, ⟨-, rfl⟩ | ⟨-, rfl⟩⟩
 · exact ⟨h, by omega⟩
 · exact ⟨h, by omega⟩
 · exact absurd hst (notStops h.off)
 · exact ⟨⟨hok, h.live, h.off, f, hf, h1, h2, h3, h4, h5⟩, by show D.steps.length ≤ _; omega⟩
 · have hnow : (tick (addS D (rnS name to))).now = mdel name (mset to ((mfind name D.now).getD none) D.nc D.now) := rfl
   have hk := (h.ok.mnow.set to ((mfind name D.now).getD none)).keys
   refine ⟨⟨hok, h.live, h.off, f, hf, ?_, fun y hy => ?_, h3, h4, h5⟩, ?_⟩
   · rw [hnow, mfind_del _ _ hk, if_neg hne, mfind_set, if_neg hte]; exact h1
   · rw [hnow, mfind_del _ _ hk]
     split
     · intro e; cases e
     · rw [mfind_set]
       split
       · intro e
         cases hq : mfind name D.now with
         | none => exact hfn hq
         | some o =>
          rw [hq] at e
          exact h2 name hne (by rw [hq]; exact e)
       · exact h2 y hy
   · show (D.steps ++ [_]).length ≤ _
     simp
end

set_option maxHeartbeats 2000000 in
theorem play_apart {S : Nat → Prop} {w : World} {O : List Nat} {db : Nat} {D0 : DiskD} {sa0 : Option Addr} {sk0 : Nat} {z : ByteArray} {x0 : Sec} {ls : List Act} {la : Option Addr} {lk : Nat} (hJ0 : Apart z x0 D0) (hll : ls.length ≤ 200) (hz : ∀ y ∈ ls, y.name ≠ z ∧ y.to ≠ z) (hD0 : D0.steps.length ≤ 2) (H0 : Hp w S O (diskM db D0 sa0 sk0) [⟨stepS, 67, .slice sa0 D0.steps.length sk0, D0.steps⟩] [Rp (Shape.slice actS) [.slice la ls.length lk] ls] w) :
 Calls Try.prog 15 #[.P db 0, .slice la ls.length lk] w (Ret fun v w' => v = .tuple #[] ∧ ∃ (D' : DiskD) (sa' : Option Addr) (sk' : Nat), Apart z x0 D' ∧ Hp w S O (diskM db D' sa' sk') [diskW D' sa' sk'] [] w') := by
 refine qS (fn := Try.f15) (n := 48) (σ := [(0, .P db 0), (1, .slice la ls.length lk)]) Try.func15 ?_
 have H := H0
 refine qR 3 [.c [1, 0], .b 0] [(0, .P db 0), (1, .slice la ls.length lk), (4, .I 0)] ?_
 refine WK.loop (α := Nat × DiskD × Option Addr × Nat) (b := cd Try.prog 15 [1, 0, 0]) (by as_aux_lemma => kernel_rfl) (fun st_ => match st_ with | (i, D, sa, sk) => [(0, .P db 0), (1, .slice la ls.length lk), (4, .I i)]) (fun st_ w' => match st_ with | (i, D, sa, sk) => Hp w S O ((diskM db D sa sk)) [⟨stepS, 67, .slice sa D.steps.length sk, D.steps⟩] [Rp (Shape.slice actS) [.slice la ls.length lk] ls] w' ∧ i ≤ ls.length ∧ Apart z x0 D ∧ D.steps.length ≤ 2 + 2 * i) (fun st_ => match st_ with | (i, D, sa, sk) => ls.length - i) (0, D0, sa0, sk0) ⟨H, Nat.zero_le _, hJ0, by omega⟩ (rfl) ?_
 rintro ⟨i, D, sa, sk⟩ w2 ⟨H, ⟨hi, hJ, hl⟩⟩ hback1
 have hn1 : ∀ h : i < ls.length, ls[i].name ≠ z := fun h => (hz _ (List.getElem_mem h)).1
 have hn2 : ∀ h : i < ls.length, ls[i].to ≠ z := fun h => (hz _ (List.getElem_mem h)).2
 refine qR 3 [.c [1, 0, 0, 0, 1], .c [1, 0, 0, 1], .l [1, 0, 0], .b 0] [(0, .P db 0), (1, .slice la ls.length lk), (4, .I i), (9, .bool (decide (((i : Int) : Int) < ((ls.length : Nat) : Int))))] ?_
 refine qD (((i : Int) : Int) < ((ls.length : Nat) : Int)) (fun h3 => ?_) (fun h3 => ?_)
 ·
  refine qR 4 [.c [1, 0, 0, 1, 0, 0, 0], .c [1, 0, 0, 1, 0, 0, 1], .b 1, .c [1, 0, 0, 2], .l [1, 0, 0], .b 0] [(0, .P db 0), (1, .slice la ls.length lk), (4, .I i)] ?_
  refine qG (sq 0 6) ?_
  refine qP 2 (sq 2 6) [(0, .P db 0), (1, .slice la ls.length lk), (4, .I i), (12, .slice la ls.length lk), (13, .I i)] ?_
  have hx4 : i < ls.length := by omega
  refine qX .seq 14 (sq 3 6) 38 40 (i : Int) actS (ls[i]) H 0 rfl i (by omega) (List.getElem?_eq_getElem hx4) ?_
  intro b5 o6 es7 hr8 H
  obtain ⟨a4q9, k4q9, rfl, hf10, hf11, hf12, hf13, hf14⟩ := act_open hr8
  have H := H.add (F := Rp SB [.slice a4q9 ((ls[i]).data.length) k4q9] ((ls[i]).data)) hf14
  refine qL .seq 15 (sq 4 6) 40 b5 o6 0 (.agg #[.I ((ls[i]).kind), .string ((ls[i]).name), .string ((ls[i]).to), .I ((ls[i]).sector), .slice a4q9 ((ls[i]).data.length) k4q9]) (H.fc 1 rfl) ?_
  refine qB .seq 5 (sq 5 6) #[.I 0, .string (⟨#[]⟩ : ByteArray), .string (⟨#[]⟩ : ByteArray), .I 0, .slice none 0 0] 40 H ?_
  intro b15 w16 H
  refine qW 40 b15 0 (sq 6 6) (.agg #[.I ((ls[i]).kind), .string ((ls[i]).name), .string ((ls[i]).to), .I ((ls[i]).sector), .slice a4q9 ((ls[i]).data.length) k4q9]) ((b15, .cells #[.I ((ls[i]).kind), .string ((ls[i]).name), .string ((ls[i]).to), .I ((ls[i]).sector), .slice a4q9 ((ls[i]).data.length) k4q9] 40 (0, 0)) :: (diskM db D sa sk)) H 0 rfl rfl ?_
  intro w17 H
  refine qF 0 [(0, .P db 0), (1, .slice la ls.length lk), (4, .I i), (5, .P b15 0)] ?_
  refine qR 1 [.c [1, 0, 0, 1, 0, 0, 1, 0], .c [1, 0, 0, 1, 0, 0, 2], .b 1, .c [1, 0, 0, 2], .l [1, 0, 0], .b 0] [(0, .P db 0), (1, .slice la ls.length lk), (4, .I i), (5, .P b15 0)] ?_
  refine qG (sq 0 2) ?_
  refine qP 1 (sq 1 2) [(0, .P db 0), (1, .slice la ls.length lk), (4, .I i), (5, .P b15 0), (16, .P b15 0)] ?_
  refine qL .seq 17 (sq 2 2) 3 b15 0 0 (.I ((ls[i]).kind)) (H.cells 0 rfl) ?_
  refine qF 0 [(0, .P db 0), (1, .slice la ls.length lk), (4, .I i), (5, .P b15 0), (17, .I ((ls[i]).kind))] ?_
  refine qR 3 [.c [1, 0, 0, 1, 0, 0, 2, 0, 1], .b 2, .b 1, .c [1, 0, 0, 2], .l [1, 0, 0], .b 0] [(0, .P db 0), (1, .slice la ls.length lk), (4, .I i), (5, .P b15 0), (17, .I ((ls[i]).kind)), (18, .bool (((ls[i]).kind) == 1))] ?_
  refine qE ((ls[i]).kind) 1 (fun h18 => ?_) (fun h18 => ?_)
  ·
   refine qG (sq 0 8) ?_
   refine qP 2 (sq 2 8) [(0, .P db 0), (1, .slice la ls.length lk), (4, .I i), (5, .P b15 0), (20, .P db 0), (21, .P b15 1)] ?_
   refine qL .seq 22 (sq 3 8) 9 b15 1 1 (.string ((ls[i]).name)) (H.cells 0 rfl) ?_
   refine qP 1 (sq 4 8) [(0, .P db 0), (1, .slice la ls.length lk), (4, .I i), (5, .P b15 0), (20, .P db 0), (22, .string ((ls[i]).name)), (23, .P b15 3)] ?_
   refine qL .seq 24 (sq 5 8) 3 b15 3 3 (.I ((ls[i]).sector)) (H.cells 0 rfl) ?_
   refine qP 1 (sq 6 8) [(0, .P db 0), (1, .slice la ls.length lk), (4, .I i), (20, .P db 0), (22, .string ((ls[i]).name)), (24, .I ((ls[i]).sector)), (25, .P b15 4)] ?_
   refine qL .seq 26 (sq 7 8) 24 b15 4 4 (.slice a4q9 ((ls[i]).data.length) k4q9) (H.cells 0 rfl) ?_
   have H := H.perms (M' := diskM db D sa sk ++ [(b15, .cells #[.I ((ls[i]).kind), .string ((ls[i]).name), .string ((ls[i]).to), .I ((ls[i]).sector), .slice a4q9 ((ls[i]).data.length) k4q9] 40 (0, 0))]) (W' := [⟨stepS, 67, .slice sa D.steps.length sk, D.steps⟩]) (List.perm_append_comm (l₁ := diskM db D sa sk) (l₂ := ([(b15, .cells #[.I ((ls[i]).kind), .string ((ls[i]).name), .string ((ls[i]).to), .I ((ls[i]).sector), .slice a4q9 ((ls[i]).data.length) k4q9] 40 (0, 0))] : Heap))) (List.Perm.refl _)
   refine RW.callS (d := some 27) (r := (sq 8 8)) (g := 8) (args := #[.P db 0, .string ((ls[i]).name), .I ((ls[i]).sector), .slice a4q9 ((ls[i]).data.length) k4q9]) (by as_aux_lemma => kernel_rfl) (dWriteN (hJ.ok) (by omega) (hJ.live) (fun h => by rw [hJ.off] at h; cases h) (by first | assumption | decide | (simp [maxLen]; done)) (by omega) (xs := ((ls[i]).data)) (rfl) ((H.lend (M1 := diskM db D sa sk) (W1 := [⟨stepS, 67, .slice sa D.steps.length sk, D.steps⟩])).pick [0] rfl)) ?_
   rintro _ w19 ⟨D20, sa21, sk22, ⟨e23, rfl, hR24⟩, H'⟩
   have H := H.back (M1 := diskM db D sa sk) (W1 := [⟨stepS, 67, .slice sa D.steps.length sk, D.steps⟩]) H'
   have H := H.perms (M' := ((b15, .cells #[.I ((ls[i]).kind), .string ((ls[i]).name), .string ((ls[i]).to), .I ((ls[i]).sector), .slice a4q9 ((ls[i]).data.length) k4q9] 40 (0, 0)) :: (diskM db D20 sa21 sk22))) (W' := [⟨stepS, 67, .slice sa21 D20.steps.length sk22, D20.steps⟩]) ((List.perm_append_comm (l₁ := diskM db D20 sa21 sk22) (l₂ := ([(b15, .cells #[.I ((ls[i]).kind), .string ((ls[i]).name), .string ((ls[i]).to), .I ((ls[i]).sector), .slice a4q9 ((ls[i]).data.length) k4q9] 40 (0, 0))] : Heap))).symm) (List.Perm.refl _)
   have H : Hp w S O ((b15, .cells #[.I ((ls[i]).kind), .string ((ls[i]).name), .string ((ls[i]).to), .I ((ls[i]).sector), .slice a4q9 ((ls[i]).data.length) k4q9] 40 (0, 0)) :: (diskM db D20 sa21 sk22)) [⟨stepS, 67, .slice sa21 D20.steps.length sk22, D20.steps⟩] [Rp SB [.slice a4q9 ((ls[i]).data.length) k4q9] ((ls[i]).data), Fc b5 o6 [.I ((ls[i]).kind), .string ((ls[i]).name), .string ((ls[i]).to), .I ((ls[i]).sector), .slice a4q9 ((ls[i]).data.length) k4q9], Rp (Shape.slice actS) [.slice la ls.length lk] ls] _ := H
   have hR24 : WriteR D ((ls[i]).name) ((ls[i]).sector) ((ls[i]).data) e23 D20 := hR24
   obtain ⟨hJ2, hl2⟩ := hJ.write (by assumption) (hn1 _) hR24
   refine qF 0 [(0, .P db 0), (1, .slice la ls.length lk), (4, .I i)] ?_
   refine qR 2 [.c [1, 0, 0, 2], .l [1, 0, 0], .b 0] [(0, .P db 0), (1, .slice la ls.length lk), (4, .I i)] ?_
   refine qG (sq 0 3) ?_
   refine qP 1 (sq 1 3) [(0, .P db 0), (1, .slice la ls.length lk), (4, .I i), (10, .I i)] ?_
   refine qI .seq 11 (sq 2 3) ((i : Int) + 1) ?_
   refine qF 1 [(0, .P db 0), (1, .slice la ls.length lk), (4, .I ((i : Int) + 1))] ?_
   skip
   have H := H.pick [2] rfl
   have H := H.drop (M' := ((diskM db D20 sa21 sk22))) (W' := [⟨stepS, 67, .slice sa21 D20.steps.length sk22, D20.steps⟩]) (by repeat (first | exact List.Sublist.refl _ | apply List.Sublist.cons_cons | apply List.Sublist.cons)) (by repeat (first | exact List.Sublist.refl _ | apply List.Sublist.cons_cons | apply List.Sublist.cons))
   exact WK.back (hback1 (i + 1, D20, sa21, sk22) _ ⟨H, by omega, hJ2, by omega⟩ (by first | omega | (simp only []; omega))) (by as_aux_lemma => kernel_rfl)
  ·
   refine qR 2 [.c [1, 0, 0, 1, 0, 0, 2, 0, 1, 1, 1], .b 2, .b 1, .c [1, 0, 0, 2], .l [1, 0, 0], .b 0] [(0, .P db 0), (1, .slice la ls.length lk), (4, .I i), (5, .P b15 0), (17, .I ((ls[i]).kind)), (28, .bool (((ls[i]).kind) == 4))] ?_
   refine qE ((ls[i]).kind) 4 (fun h25 => ?_) (fun h25 => ?_)
   ·
    refine qG (sq 0 4) ?_
    refine qP 2 (sq 2 4) [(0, .P db 0), (1, .slice la ls.length lk), (4, .I i), (30, .P db 0), (31, .P b15 1)] ?_
    refine qL .seq 32 (sq 3 4) 9 b15 1 1 (.string ((ls[i]).name)) (H.cells 0 rfl) ?_
    have H := H.perms (M' := diskM db D sa sk ++ [(b15, .cells #[.I ((ls[i]).kind), .string ((ls[i]).name), .string ((ls[i]).to), .I ((ls[i]).sector), .slice a4q9 ((ls[i]).data.length) k4q9] 40 (0, 0))]) (W' := [⟨stepS, 67, .slice sa D.steps.length sk, D.steps⟩]) (List.perm_append_comm (l₁ := diskM db D sa sk) (l₂ := ([(b15, .cells #[.I ((ls[i]).kind), .string ((ls[i]).name), .string ((ls[i]).to), .I ((ls[i]).sector), .slice a4q9 ((ls[i]).data.length) k4q9] 40 (0, 0))] : Heap))) (List.Perm.refl _)
    refine RW.callS (d := some 33) (r := (sq 4 4)) (g := 9) (args := #[.P db 0, .string ((ls[i]).name)]) (by as_aux_lemma => kernel_rfl) (dSync (hJ.ok) (by omega) (hJ.live) (fun h => by rw [hJ.off] at h; cases h) ((H.lend (M1 := diskM db D sa sk) (W1 := [⟨stepS, 67, .slice sa D.steps.length sk, D.steps⟩])).pick [] rfl)) ?_
    rintro _ w26 ⟨D27, sa28, sk29, ⟨e30, rfl, hR31⟩, H'⟩
    have H := H.back (M1 := diskM db D sa sk) (W1 := [⟨stepS, 67, .slice sa D.steps.length sk, D.steps⟩]) H'
    have H := H.perms (M' := ((b15, .cells #[.I ((ls[i]).kind), .string ((ls[i]).name), .string ((ls[i]).to), .I ((ls[i]).sector), .slice a4q9 ((ls[i]).data.length) k4q9] 40 (0, 0)) :: (diskM db D27 sa28 sk29))) (W' := [⟨stepS, 67, .slice sa28 D27.steps.length sk29, D27.steps⟩]) ((List.perm_append_comm (l₁ := diskM db D27 sa28 sk29) (l₂ := ([(b15, .cells #[.I ((ls[i]).kind), .string ((ls[i]).name), .string ((ls[i]).to), .I ((ls[i]).sector), .slice a4q9 ((ls[i]).data.length) k4q9] 40 (0, 0))] : Heap))).symm) (List.Perm.refl _)
    have H : Hp w S O ((b15, .cells #[.I ((ls[i]).kind), .string ((ls[i]).name), .string ((ls[i]).to), .I ((ls[i]).sector), .slice a4q9 ((ls[i]).data.length) k4q9] 40 (0, 0)) :: (diskM db D27 sa28 sk29)) [⟨stepS, 67, .slice sa28 D27.steps.length sk29, D27.steps⟩] [Rp SB [.slice a4q9 ((ls[i]).data.length) k4q9] ((ls[i]).data), Fc b5 o6 [.I ((ls[i]).kind), .string ((ls[i]).name), .string ((ls[i]).to), .I ((ls[i]).sector), .slice a4q9 ((ls[i]).data.length) k4q9], Rp (Shape.slice actS) [.slice la ls.length lk] ls] _ := H
    have hR31 : SyncR D ((ls[i]).name) e30 D27 := hR31
    obtain ⟨hJ2, hl2⟩ := hJ.sync (hn1 _) hR31
    refine qF 0 [(0, .P db 0), (1, .slice la ls.length lk), (4, .I i)] ?_
    refine qR 2 [.c [1, 0, 0, 2], .l [1, 0, 0], .b 0] [(0, .P db 0), (1, .slice la ls.length lk), (4, .I i)] ?_
    refine qG (sq 0 3) ?_
    refine qP 1 (sq 1 3) [(0, .P db 0), (1, .slice la ls.length lk), (4, .I i), (10, .I i)] ?_
    refine qI .seq 11 (sq 2 3) ((i : Int) + 1) ?_
    refine qF 1 [(0, .P db 0), (1, .slice la ls.length lk), (4, .I ((i : Int) + 1))] ?_
    skip
    have H := H.pick [2] rfl
    have H := H.drop (M' := ((diskM db D27 sa28 sk29))) (W' := [⟨stepS, 67, .slice sa28 D27.steps.length sk29, D27.steps⟩]) (by repeat (first | exact List.Sublist.refl _ | apply List.Sublist.cons_cons | apply List.Sublist.cons)) (by repeat (first | exact List.Sublist.refl _ | apply List.Sublist.cons_cons | apply List.Sublist.cons))
    exact WK.back (hback1 (i + 1, D27, sa28, sk29) _ ⟨H, by omega, hJ2, by omega⟩ (by first | omega | (simp only []; omega))) (by as_aux_lemma => kernel_rfl)
   ·
    refine qR 2 [.c [1, 0, 0, 1, 0, 0, 2, 0, 1, 1, 1, 1, 1], .b 2, .b 1, .c [1, 0, 0, 2], .l [1, 0, 0], .b 0] [(0, .P db 0), (1, .slice la ls.length lk), (4, .I i), (5, .P b15 0), (17, .I ((ls[i]).kind)), (34, .bool (((ls[i]).kind) == 5))] ?_
    refine qE ((ls[i]).kind) 5 (fun h32 => ?_) (fun h32 => ?_)
    ·
     refine qG (sq 0 6) ?_
     refine qP 2 (sq 2 6) [(0, .P db 0), (1, .slice la ls.length lk), (4, .I i), (5, .P b15 0), (36, .P db 0), (37, .P b15 1)] ?_
     refine qL .seq 38 (sq 3 6) 9 b15 1 1 (.string ((ls[i]).name)) (H.cells 0 rfl) ?_
     refine qP 1 (sq 4 6) [(0, .P db 0), (1, .slice la ls.length lk), (4, .I i), (36, .P db 0), (38, .string ((ls[i]).name)), (39, .P b15 2)] ?_
     refine qL .seq 40 (sq 5 6) 9 b15 2 2 (.string ((ls[i]).to)) (H.cells 0 rfl) ?_
     have H := H.perms (M' := diskM db D sa sk ++ [(b15, .cells #[.I ((ls[i]).kind), .string ((ls[i]).name), .string ((ls[i]).to), .I ((ls[i]).sector), .slice a4q9 ((ls[i]).data.length) k4q9] 40 (0, 0))]) (W' := [⟨stepS, 67, .slice sa D.steps.length sk, D.steps⟩]) (List.perm_append_comm (l₁ := diskM db D sa sk) (l₂ := ([(b15, .cells #[.I ((ls[i]).kind), .string ((ls[i]).name), .string ((ls[i]).to), .I ((ls[i]).sector), .slice a4q9 ((ls[i]).data.length) k4q9] 40 (0, 0))] : Heap))) (List.Perm.refl _)
     refine RW.callS (d := some 41) (r := (sq 6 6)) (g := 17) (args := #[.P db 0, .string ((ls[i]).name), .string ((ls[i]).to)]) (by as_aux_lemma => kernel_rfl) (dRename (hJ.ok) (by omega) (hJ.live) (by first | assumption | decide | (simp [maxLen]; done)) (by first | assumption | decide | (simp [maxLen]; done)) (fun h => by rw [hJ.off] at h; cases h) ((H.lend (M1 := diskM db D sa sk) (W1 := [⟨stepS, 67, .slice sa D.steps.length sk, D.steps⟩])).pick [] rfl)) ?_
     rintro _ w33 ⟨D34, sa35, sk36, ⟨e37, rfl, hR38⟩, H'⟩
     have H := H.back (M1 := diskM db D sa sk) (W1 := [⟨stepS, 67, .slice sa D.steps.length sk, D.steps⟩]) H'
     have H := H.perms (M' := ((b15, .cells #[.I ((ls[i]).kind), .string ((ls[i]).name), .string ((ls[i]).to), .I ((ls[i]).sector), .slice a4q9 ((ls[i]).data.length) k4q9] 40 (0, 0)) :: (diskM db D34 sa35 sk36))) (W' := [⟨stepS, 67, .slice sa35 D34.steps.length sk36, D34.steps⟩]) ((List.perm_append_comm (l₁ := diskM db D34 sa35 sk36) (l₂ := ([(b15, .cells #[.I ((ls[i]).kind), .string ((ls[i]).name), .string ((ls[i]).to), .I ((ls[i]).sector), .slice a4q9 ((ls[i]).data.length) k4q9] 40 (0, 0))] : Heap))).symm) (List.Perm.refl _)
     have H : Hp w S O ((b15, .cells #[.I ((ls[i]).kind), .string ((ls[i]).name), .string ((ls[i]).to), .I ((ls[i]).sector), .slice a4q9 ((ls[i]).data.length) k4q9] 40 (0, 0)) :: (diskM db D34 sa35 sk36)) [⟨stepS, 67, .slice sa35 D34.steps.length sk36, D34.steps⟩] [Rp SB [.slice a4q9 ((ls[i]).data.length) k4q9] ((ls[i]).data), Fc b5 o6 [.I ((ls[i]).kind), .string ((ls[i]).name), .string ((ls[i]).to), .I ((ls[i]).sector), .slice a4q9 ((ls[i]).data.length) k4q9], Rp (Shape.slice actS) [.slice la ls.length lk] ls] _ := H
     have hR38 : RenameR D ((ls[i]).name) ((ls[i]).to) e37 D34 := hR38
     obtain ⟨hJ2, hl2⟩ := hJ.rename (by assumption) (by assumption) (hn1 _) (hn2 _) hR38
     refine qF 0 [(0, .P db 0), (1, .slice la ls.length lk), (4, .I i)] ?_
     refine qR 2 [.c [1, 0, 0, 2], .l [1, 0, 0], .b 0] [(0, .P db 0), (1, .slice la ls.length lk), (4, .I i)] ?_
     refine qG (sq 0 3) ?_
     refine qP 1 (sq 1 3) [(0, .P db 0), (1, .slice la ls.length lk), (4, .I i), (10, .I i)] ?_
     refine qI .seq 11 (sq 2 3) ((i : Int) + 1) ?_
     refine qF 1 [(0, .P db 0), (1, .slice la ls.length lk), (4, .I ((i : Int) + 1))] ?_
     skip
     have H := H.pick [2] rfl
     have H := H.drop (M' := ((diskM db D34 sa35 sk36))) (W' := [⟨stepS, 67, .slice sa35 D34.steps.length sk36, D34.steps⟩]) (by repeat (first | exact List.Sublist.refl _ | apply List.Sublist.cons_cons | apply List.Sublist.cons)) (by repeat (first | exact List.Sublist.refl _ | apply List.Sublist.cons_cons | apply List.Sublist.cons))
     exact WK.back (hback1 (i + 1, D34, sa35, sk36) _ ⟨H, by omega, hJ2, by omega⟩ (by first | omega | (simp only []; omega))) (by as_aux_lemma => kernel_rfl)
    ·
     refine qR 2 [.c [1, 0, 0, 1, 0, 0, 2, 0, 1, 1, 1, 1, 1, 1, 1], .b 2, .b 1, .c [1, 0, 0, 2], .l [1, 0, 0], .b 0] [(0, .P db 0), (1, .slice la ls.length lk), (4, .I i), (5, .P b15 0), (42, .bool (((ls[i]).kind) == 6))] ?_
     refine qE ((ls[i]).kind) 6 (fun h39 => ?_) (fun h39 => ?_)
     ·
      refine qG (sq 0 4) ?_
      refine qP 2 (sq 2 4) [(0, .P db 0), (1, .slice la ls.length lk), (4, .I i), (44, .P db 0), (45, .P b15 1)] ?_
      refine qL .seq 46 (sq 3 4) 9 b15 1 1 (.string ((ls[i]).name)) (H.cells 0 rfl) ?_
      have H := H.perms (M' := diskM db D sa sk ++ [(b15, .cells #[.I ((ls[i]).kind), .string ((ls[i]).name), .string ((ls[i]).to), .I ((ls[i]).sector), .slice a4q9 ((ls[i]).data.length) k4q9] 40 (0, 0))]) (W' := [⟨stepS, 67, .slice sa D.steps.length sk, D.steps⟩]) (List.perm_append_comm (l₁ := diskM db D sa sk) (l₂ := ([(b15, .cells #[.I ((ls[i]).kind), .string ((ls[i]).name), .string ((ls[i]).to), .I ((ls[i]).sector), .slice a4q9 ((ls[i]).data.length) k4q9] 40 (0, 0))] : Heap))) (List.Perm.refl _)
      refine RW.callS (d := some 47) (r := (sq 4 4)) (g := 18) (args := #[.P db 0, .string ((ls[i]).name)]) (by as_aux_lemma => kernel_rfl) (dRemove (hJ.ok) (by omega) (hJ.live) (by first | assumption | decide | (simp [maxLen]; done)) (fun h => by rw [hJ.off] at h; cases h) ((H.lend (M1 := diskM db D sa sk) (W1 := [⟨stepS, 67, .slice sa D.steps.length sk, D.steps⟩])).pick [] rfl)) ?_
      rintro _ w40 ⟨D41, sa42, sk43, ⟨e44, rfl, hR45⟩, H'⟩
      have H := H.back (M1 := diskM db D sa sk) (W1 := [⟨stepS, 67, .slice sa D.steps.length sk, D.steps⟩]) H'
      have H := H.perms (M' := ((b15, .cells #[.I ((ls[i]).kind), .string ((ls[i]).name), .string ((ls[i]).to), .I ((ls[i]).sector), .slice a4q9 ((ls[i]).data.length) k4q9] 40 (0, 0)) :: (diskM db D41 sa42 sk43))) (W' := [⟨stepS, 67, .slice sa42 D41.steps.length sk43, D41.steps⟩]) ((List.perm_append_comm (l₁ := diskM db D41 sa42 sk43) (l₂ := ([(b15, .cells #[.I ((ls[i]).kind), .string ((ls[i]).name), .string ((ls[i]).to), .I ((ls[i]).sector), .slice a4q9 ((ls[i]).data.length) k4q9] 40 (0, 0))] : Heap))).symm) (List.Perm.refl _)
      have H : Hp w S O ((b15, .cells #[.I ((ls[i]).kind), .string ((ls[i]).name), .string ((ls[i]).to), .I ((ls[i]).sector), .slice a4q9 ((ls[i]).data.length) k4q9] 40 (0, 0)) :: (diskM db D41 sa42 sk43)) [⟨stepS, 67, .slice sa42 D41.steps.length sk43, D41.steps⟩] [Rp SB [.slice a4q9 ((ls[i]).data.length) k4q9] ((ls[i]).data), Fc b5 o6 [.I ((ls[i]).kind), .string ((ls[i]).name), .string ((ls[i]).to), .I ((ls[i]).sector), .slice a4q9 ((ls[i]).data.length) k4q9], Rp (Shape.slice actS) [.slice la ls.length lk] ls] _ := H
      have hR45 : RemoveR D ((ls[i]).name) e44 D41 := hR45
      obtain ⟨hJ2, hl2⟩ := hJ.remove (by assumption) (hn1 _) hR45
      refine qF 0 [(0, .P db 0), (1, .slice la ls.length lk), (4, .I i)] ?_
      refine qR 2 [.c [1, 0, 0, 2], .l [1, 0, 0], .b 0] [(0, .P db 0), (1, .slice la ls.length lk), (4, .I i)] ?_
      refine qG (sq 0 3) ?_
      refine qP 1 (sq 1 3) [(0, .P db 0), (1, .slice la ls.length lk), (4, .I i), (10, .I i)] ?_
      refine qI .seq 11 (sq 2 3) ((i : Int) + 1) ?_
      refine qF 1 [(0, .P db 0), (1, .slice la ls.length lk), (4, .I ((i : Int) + 1))] ?_
      skip
      have H := H.pick [2] rfl
      have H := H.drop (M' := ((diskM db D41 sa42 sk43))) (W' := [⟨stepS, 67, .slice sa42 D41.steps.length sk43, D41.steps⟩]) (by repeat (first | exact List.Sublist.refl _ | apply List.Sublist.cons_cons | apply List.Sublist.cons)) (by repeat (first | exact List.Sublist.refl _ | apply List.Sublist.cons_cons | apply List.Sublist.cons))
      exact WK.back (hback1 (i + 1, D41, sa42, sk43) _ ⟨H, by omega, hJ2, by omega⟩ (by first | omega | (simp only []; omega))) (by as_aux_lemma => kernel_rfl)
     ·
      refine qR 3 [.c [1, 0, 0, 2], .l [1, 0, 0], .b 0] [(0, .P db 0), (1, .slice la ls.length lk), (4, .I i)] ?_
      refine qG (sq 0 3) ?_
      refine qP 1 (sq 1 3) [(0, .P db 0), (1, .slice la ls.length lk), (4, .I i), (10, .I i)] ?_
      refine qI .seq 11 (sq 2 3) ((i : Int) + 1) ?_
      refine qF 1 [(0, .P db 0), (1, .slice la ls.length lk), (4, .I ((i : Int) + 1))] ?_
      have hJ2 := hJ
      have hl2 : D.steps.length ≤ D.steps.length + 2 := by omega
      have H := H.pick [2] rfl
      have H := H.drop (M' := ((diskM db D sa sk))) (W' := [⟨stepS, 67, .slice sa D.steps.length sk, D.steps⟩]) (by repeat (first | exact List.Sublist.refl _ | apply List.Sublist.cons_cons | apply List.Sublist.cons)) (by repeat (first | exact List.Sublist.refl _ | apply List.Sublist.cons_cons | apply List.Sublist.cons))
      exact WK.back (hback1 (i + 1, D, sa, sk) _ ⟨H, by omega, hJ2, by omega⟩ (by first | omega | (simp only []; omega))) (by as_aux_lemma => kernel_rfl)
 ·
  refine qR 1 [] [] ?_
  refine WK.fin (v := .tuple #[]) Try.func15 (by as_aux_lemma => kernel_rfl) ?_
  have H := H.pick [] rfl
  exact ⟨_, rfl, rfl, D, sa, sk, hJ, H⟩


end Go.Proofs.Ytekgjnblidjloaa
