import Derived.Test.YtdnibpclkhenmaaGreatDoorSBxA
import Derived.Test.YtdnibpclkhenmaaGreatDoorSJL
namespace Go.Proofs.YtdnibpclkhenmaaGreatDoor
open Go.BX
section
variable {P : Program} {n : Nat} {ds : List Deferred} {ops : Array Oper} {K : Env → World → Prop} {l r : List (Nat × Kd)} {σ : Env} {w : World} {d : Option Tmp} {κ : Kd}
variable {w0 : World} {S : Nat → Prop} {O : List Nat} {M : Heap} {W : List OwnS} {G : List Fact}
theorem RW.appendO {T ty e T' : TypeId} {m by_ : Nat} {α : Type} {sh : Shape α} {a0 a2 : Option Addr} {l2 c2 : Nat} {ys : List α} (hl : BX.look P n ops l σ = some (κ, semV (Builtin.append_ #[T, T] ty #[.slice a0 0 0, .slice a2 l2 c2]), d, r)) (hκ : κ ≠ .qui)
 (ha : a0 = none ∨ ∃ b0, a0 = some ⟨b0, 0, none⟩) (hT : elemE P T = some (e, m, by_, true)) (hm : m = sh.size) (H : Hp w0 S O M (⟨sh, T', .slice a2 l2 c2, ys⟩ :: W) G w)
 (hby : ys.length * by_ ≤ 140737488355328)
 (h : ∀ a c w', Hp w0 S O M (⟨sh, T', .slice a2 l2 c2, ys⟩ :: W) (Rp sh.slice [.slice a ys.length c] ys :: G) w' → RW P ops n ds K r (putO d (.slice a ys.length c) σ) w') : RW P ops n ds K l σ w := by
 subst hm
 have hrp := H.view 0 rfl
 obtain ⟨rfl, hyc, hycm, hE⟩ := Shape.elems_of hrp
 obtain ⟨hu, ti, z, hti, _, hts, _, _⟩ := elemE_spec hT
 by_cases hy : ys = []
 · subst hy
   exact RW.makeS hl hκ (semV_run (append_zero_run hu hti (Nat.le_refl _))) (Ext.refl w) (h a0 0 w (H.add ⟨a0, 0, rfl, Nat.le_refl _, Nat.zero_le _, fun i x hx => by simp at hx⟩))
 · obtain ⟨b, o, news, rfl, hS, hnl, hnc, _, -⟩ := elems_flat hE hy
   have hnr : ∀ i x, ys[i]? = some x → sh.rep (Av S w0 O (idsOf M (⟨sh, T', .slice (some ⟨b, o, none⟩) ys.length c2, ys⟩ :: W))) w ((news.drop (i * sh.size)).take sh.size) x := fun i x hx => by
    obtain ⟨hi, rfl⟩ := List.getElem?_eq_some_iff.1 hx
    obtain ⟨b', es, hb', hces, hres⟩ := H.ownCell i hi rfl
    simp only [Option.some.injEq, Addr.mk.injEq, and_true] at hb'
    obtain ⟨rfl, rfl⟩ := hb'
    have hel := sh.len hres
    have g : (news.drop (i * sh.size)).take sh.size = es := by
     refine List.ext_getElem? fun j => ?_
     have hbd : (i + 1) * sh.size ≤ ys.length * sh.size := Nat.mul_le_mul_right _ hi
     rw [Nat.add_mul, Nat.one_mul] at hbd
     rcases Nat.lt_or_ge j es.length with hj | hj
     · have f : i * sh.size + j < news.length := by omega
       have p := hces j _ (List.getElem?_eq_getElem hj)
       have s := hnc (i * sh.size + j) _ (List.getElem?_eq_getElem f)
       rw [List.getElem?_take, if_pos (by omega), List.getElem?_drop, List.getElem?_eq_getElem f, List.getElem?_eq_getElem hj, ← s, ← p]
       simp
     · rw [List.getElem?_take, if_neg (by omega), List.getElem?_eq_none hj]
    rw [g]; exact hres
   have hpos : 0 < ys.length := List.length_pos_iff.2 hy
   obtain ⟨q, cc, hr, hcc, hccm⟩ := append_new_run (ty := ty) (w := w) (c := c2) hT ha hpos hnl hnc (by unfold maxLen at hycm; omega) hby
   have he : Ext w (w.drew.alloc (.cells (news.toArray ++ q) e)) := ⟨rfl, rfl, rfl, by simp, fun k hk => by
    show (w.drew.heap.push _)[k]? = _
    rw [Array.getElem?_push, if_neg (by show ¬ k = w.heap.size; omega)]; rfl⟩
   refine RW.makeS hl hκ (semV_run hr) he (h _ cc _ ((H.ext he).add ⟨_, cc, rfl, hcc, hccm, elems_of_flat (news := news) ⟨.inr (.inl H.below.size), fun hid => by have := (H.ids_lt _ hid).1; omega⟩ (by rw [hnl]; exact Nat.le_refl _) ?_ fun i x hx => sh.step (hnr i x hx) fun k hk hlt => ⟨hk, Go.RowKit.Below.block he k hlt⟩⟩))
   have hblk : (w.drew.alloc (.cells (news.toArray ++ q) e)).heap[w.heap.size]? = some (.cells (news.toArray ++ q) e) := heap_alloc_new w.drew _
   intro j v hj
   refine (Cells.of_block hblk) j v ?_
   simp only [Array.toList_append]
   rw [List.getElem?_append_left (List.getElem?_eq_some_iff.1 hj).1]; exact hj
end
def mayP (b t : Bs) (R0 L : List Bs) (torn : Bool) (base : Bs) (l : List Bs) : Prop := (torn = true ∧ l = [] ∧ base = t) ∨ (base = b ∧ R0 <+: l ∧ l <+: R0 ++ L)
theorem mayP.two {b t : Bs} {R0 L : List Bs} {torn : Bool} {base : Bs} {l : List Bs} (h : mayP b t R0 L torn base l) (hn : ¬ (torn = true ∧ l = [] ∧ base = t)) : base = b ∧ R0 <+: l ∧ l <+: R0 ++ L := h.resolve_left hn
end Go.Proofs.YtdnibpclkhenmaaGreatDoor
