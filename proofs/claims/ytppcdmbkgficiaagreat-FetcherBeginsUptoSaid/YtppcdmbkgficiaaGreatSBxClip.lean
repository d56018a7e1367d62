/-
 THE ENGINE: slices.Clip, and append to a clipped row: always a new one.
 No condition.
-/
import Derived.Test.YtppcdmbkgficiaaGreatSBxSlices
namespace Go.BX
open Go.RowKit (Below)
section
variable {P : Program} {n : Nat} {ds : List Deferred} {ops : Array Oper} {K : Env → World → Prop} {l r : List (Nat × Kd)} {σ : Env} {w w1 : World} {κ : Kd} {d : Option Tmp}
variable {w0 : World} {S : Nat → Prop} {O : List Nat} {M : Heap} {W : List OwnS} {G : List Fact}
theorem clip_run {T e : TypeId} {m : Nat} (hT : sliceE P T = some (e, m)) {a : Option Addr} {len cap : Nat} {k1 k2 : IntKind} {t1 t2 : Int} (h1 : t1 = (len : Int)) (h2 : t2 = (len : Int)) (hlc : len ≤ cap) :
 (Instr.sliceAt T (.slice a len cap) none (some (.int k1 t1)) (some (.int k2 t2))).run P w = .ok (.slice a len len) w := by
 subst h1 h2
 obtain ⟨hu, i, hti, hm⟩ := sliceE_spec hT
 have hb2 : ∀ (k : IntKind) (code : BoundsCode), (Instr.sliceBound (.int k (len : Int)) cap code).run P w = .ok len w := fun k code => sliceBound_run hlc
 have hb3 : ∀ (k : IntKind) (code : BoundsCode), (Instr.sliceBound (.int k (len : Int)) len code).run P w = .ok len w := fun k code => sliceBound_run (Nat.le_refl _)
 cases a <;> simp [Instr.sliceAt, Instr.slice, Instr.sliceBounds, run_underlying hu, sizeOf, typeInfo, hti, hb2, hb3, Addr.add]
theorem Shape.clip_rep {α : Type} {sh : Shape α} {S : Nat → Prop} {w : World} {a : Option Addr} {len cap : Nat} {xs : List α} (h : sh.slice.rep S w [.slice a len cap] xs) : sh.slice.rep S w [.slice a len len] xs := by
 obtain ⟨rfl, hyc, hycm, hE⟩ := Shape.elems_of h
 exact ⟨a, xs.length, rfl, Nat.le_refl _, by omega, hE⟩
theorem RW.clip {T e : TypeId} {α : Type} {sh : Shape α} {a : Option Addr} {len cap : Nat} {xs : List α} {k1 k2 : IntKind} {t1 t2 : Int} (hl : look P n ops l σ = some (κ, semV (Instr.sliceAt T (.slice a len cap) none (some (.int k1 t1)) (some (.int k2 t2))), d, r))
 (hT : sliceE P T = some (e, sh.size)) (H : Hp w0 S O M W G w) (g : Nat) (hg : G[g]? = some (Rp sh.slice [.slice a len cap] xs)) (h1 : t1 = (len : Int)) (h2 : t2 = (len : Int))
 (h : Hp w0 S O M W (Rp sh.slice [.slice a len len] xs :: G) w → RW P ops n ds K r (putO d (.slice a len len) σ) w) : RW P ops n ds K l σ w := by
 obtain ⟨rfl, hyc, hycm, hE⟩ := Shape.elems_of (H.rp g hg)
 exact RW.readS hl (fun w' _ => semV_run (clip_run (w := w') hT h1 h2 hyc)) (h (H.add ⟨a, xs.length, rfl, Nat.le_refl _, by omega, hE⟩))
theorem RW.appendC {T ty e : TypeId} {m by_ : Nat} {α : Type} {sh : Shape α} {a1 a2 : Option Addr} {l1 l2 c2 : Nat} {xs ys zs : List α} (hl : look P n ops l σ = some (κ, semV (Builtin.append_ #[T, T] ty #[.slice a1 l1 l1, .slice a2 l2 c2]), d, r)) (hκ : κ ≠ .qui)
 (hT : elemE P T = some (e, m, by_, true)) (hm : m = sh.size) (H : Hp w0 S O M W G w) (g1 : Nat) (hg1 : G[g1]? = some (Rp sh.slice [.slice a1 l1 l1] xs)) (g : Nat) (hg : G[g]? = some (Rp sh.slice [.slice a2 l2 c2] ys)) (hy : 0 < ys.length)
 (hz : xs ++ ys = zs) (hby : zs.length * by_ ≤ 140737488355328 ∧ zs.length ≤ 9223372036854775807)
 (h : ∀ a c w', Hp w0 S O M W (Rp sh.slice [.slice a zs.length c] zs :: G) w' → RW P ops n ds K r (putO d (.slice a zs.length c) σ) w') : RW P ops n ds K l σ w := by
 subst hm
 obtain ⟨rfl, _, _, hE1⟩ := Shape.elems_of (H.rp g1 hg1)
 obtain ⟨rfl, hyc, hycm, hE⟩ := Shape.elems_of (H.rp g hg)
 obtain ⟨hu, ti, z, hti, hz0, hts, hb, hzs⟩ := elemE_spec hT
 have hne : ys ≠ [] := List.length_pos_iff.1 hy
 obtain ⟨b, o, news, rfl, hS, hnl, hnc, hn1, hnr⟩ := elems_flat hE hne
 have hn : ∀ q u, news[q]? = some u → w.cell? ((⟨b, o, none⟩ : Addr).add q) = some u := fun q u hq => by rw [addr_lit]; exact hnc q u hq
 have hlen : zs.length = xs.length + ys.length := by rw [← hz, List.length_append]
 -- what is old
 obtain ⟨olds, hol, hold, hor, hrun⟩ : ∃ olds : List Value, olds.length = xs.length * sh.size ∧ (∀ v ∈ olds, v.oneCell' = true) ∧ (∀ i x, xs[i]? = some x → sh.rep (Av S w0 O (idsOf M W)) w ((olds.drop (i * sh.size)).take sh.size) x) ∧
  ∃ q cc, (Builtin.append_ #[T, T] ty #[.slice a1 xs.length xs.length, .slice (some ⟨b, o, none⟩) ys.length c2]).run P w = .ok (.slice (some ⟨w.heap.size, 0, none⟩) (xs.length + ys.length) cc) (w.drew.alloc (.cells (olds.toArray ++ news.toArray ++ q) e)) ∧ xs.length + ys.length ≤ cc ∧ cc ≤ maxLen := by
  by_cases hx : xs = []
  · subst hx
    refine ⟨[], by simp, (fun v hv => by cases hv), (fun i x hi => by simp at hi), ?_⟩
    cases a1 with
    | none =>
     obtain ⟨q, cc, hr, h1, h2⟩ := append_new_run (ty := ty) (w := w) (c := c2) hT (.inl rfl) hy hnl hnc (by unfold maxLen at hycm; omega) (by rw [hlen] at hby; simp only [List.length_nil, Nat.zero_add] at hby; exact hby.1)
     exact ⟨q, cc, by simpa using hr, by simpa using h1, h2⟩
    | some A =>
     have hg := run_append_grow (P := P) w T ty e ti z hu hti hz0 A 0 0 [] (by simp) (fun j v hj => by simp at hj) ⟨b, o, none⟩ ys.length c2 news (by rw [hts]; exact hnl) hn (by omega) (by omega)
      (by rw [hb]; exact growslice_fits (by omega) (by rw [hlen] at hby; simpa using hby.1))
     exact ⟨_, _, by simpa using hg, by simpa using grownCap_ge w (0 + ys.length) 0 e, grownCap_le_maxLen _ _ _ _ (by unfold maxLen; omega)⟩
  · obtain ⟨b1, o1, olds, rfl, _, hol, hoc, ho1, hor⟩ := elems_flat hE1 hx
    have ho : ∀ q u, olds[q]? = some u → w.cell? ((⟨b1, o1, none⟩ : Addr).add q) = some u := fun q u hq => by rw [addr_lit]; exact hoc q u hq
    have hg := run_append_grow (P := P) w T ty e ti z hu hti hz0 ⟨b1, o1, none⟩ xs.length xs.length olds (by rw [hts]; exact hol) ho ⟨b, o, none⟩ ys.length c2 news (by rw [hts]; exact hnl) hn (by omega) (by omega)
     (by rw [hb]; exact growslice_fits (by omega) (by rw [← hlen]; exact hby.1))
    exact ⟨olds, hol, ho1, hor, _, _, hg, grownCap_ge _ _ _ _, grownCap_le_maxLen _ _ _ _ (by unfold maxLen; omega)⟩
 obtain ⟨q, cc, hr, hcc, hccm⟩ := hrun
 have he : Ext w (w.drew.alloc (.cells (olds.toArray ++ news.toArray ++ q) e)) := ⟨rfl, rfl, rfl, by simp, fun k hk => by
  show (w.drew.heap.push _)[k]? = _
  rw [Array.getElem?_push, if_neg (by show ¬ k = w.heap.size; omega)]; rfl⟩
 have hall := rep_append (cs := olds) (news := news) hol hnl hor hnr
 rw [hz] at hall
 rw [← hlen] at hr hcc
 refine RW.makeS hl hκ (semV_run hr) he (h _ cc _ ((H.ext he).add ⟨_, cc, rfl, hcc, hccm, elems_of_flat (news := olds ++ news) ⟨.inr (.inl H.below.size), fun hid => by have := (H.ids_lt _ hid).1; omega⟩ (by rw [List.length_append, hol, hnl, hlen, Nat.add_mul]; exact Nat.le_refl _) ?_ fun i x hx => sh.step (hall i x hx) fun k hk hlt => ⟨hk, Below.block he k hlt⟩⟩))
 have hblk : (w.drew.alloc (.cells (olds.toArray ++ news.toArray ++ q) e)).heap[w.heap.size]? = some (.cells (olds.toArray ++ news.toArray ++ q) e) := heap_alloc_new w.drew _
 intro j v hj
 refine (Cells.of_block hblk) j v ?_
 simp only [Array.toList_append]
 rw [List.getElem?_append_left (by have := (List.getElem?_eq_some_iff.1 hj).1; simpa using this)]; exact hj
end
end Go.BX
