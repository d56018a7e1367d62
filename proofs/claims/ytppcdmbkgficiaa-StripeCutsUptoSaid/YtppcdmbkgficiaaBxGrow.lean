/-
  THE ENGINE: so many noughts appended to a nil slice.
  No condition.
-/
import Derived.Test.YtppcdmbkgficiaaBxIns
namespace Go.BX
section
variable {P : Program} {n : Nat} {ds : List Deferred} {ops : Array Oper} {K : Env → World → Prop} {l r : List (Nat × Kd)} {σ : Env} {w : World} {d : Option Tmp}
variable {w0 : World} {S : Nat → Prop} {O : List Nat} {M : Heap} {W : List OwnS} {G : List Fact}
theorem RW.appendZN {T TI ty e : TypeId} {m by_ : Nat} {ik : IntKind} {j : Nat} {t : Int} (hl : look P n ops l σ = some (.seq, semV (Builtin.append_ #[T, TI] ty #[.slice none 0 0, .int .i64 t]), d, r))
    (ht : t = (j : Int)) (hT : elemE P T = some (e, m, by_, true)) (hI : P.underlying TI = some (.int ik)) (H : Hp w0 S O M W G w) (hm : 0 < m) (hj : 0 < j) (h63 : j ≤ 9223372036854775807) (hby : j * by_ ≤ 140737488355328)
    (h : ∀ b' cc c' w', Hp w0 S O ((b', .cells c' e (0, 0)) :: M) W G w' → c'.size = cc * m → j ≤ cc → cc ≤ 9223372036854775807 →
      RW P ops n ds K r (putO d (.slice (some ⟨b', 0, none⟩) j cc) σ) w') : RW P ops n ds K l σ w := by
  subst ht
  obtain ⟨hu, ti, z, hti, hz, rfl, rfl, hzs⟩ := elemE_spec hT
  have hr : (Builtin.append_ #[T, TI] ty #[.slice none 0 0, .int .i64 (j : Int)]).run P w = .ok (.slice (some ⟨w.heap.size, 0, none⟩) j (grownCap w j 0 e))
      (w.drew.alloc (.cells (Builtin.zeroCells z.cells j ++ Builtin.zeroCells z.cells (grownCap w j 0 e - j)) e)) := by
    have hn : ¬ (j = 0) := by omega
    have h63' : ¬ (9223372036854775807 < (j : Int)) := by omega
    have h48' : ¬ (281474976710656 < Builtin.nextslicecap j 0 * ti.bytes) := by rw [nextslicecap_zero hj]; omega
    have hw : IntKind.i64.wrap (j : Int) = j := by rw [IntKind.wrap_i64]; omega
    have hbj : ¬ (281474976710656 < (j : Int) * (ti.bytes : Int)) := by
      have h2 : ((j * ti.bytes : Nat) : Int) ≤ 140737488355328 := by omega
      rw [Int.natCast_mul] at h2
      omega
    have hm0 : ¬ (ti.size = 0) := by omega
    have hneg : ¬ ((j : Int) < 0) := by omega
    simp [Builtin.append_, run_underlying hu, run_underlying hI, sizeOf, typeInfo, zeroValue, hti, hz, hn, h63', h48', Question.forced, run_firstCells_none, newRow, grownCap, asInt, asIntOf, hw, hbj, hm0, hneg]
    intro h0
    have := Nat.mul_pos hj hm
    omega
  refine RW.actV hl (semV_run hr) (h _ (grownCap w j 0 e) _ _ (H.draw.alloc _) ?_ (grownCap_ge _ _ _ _) ?_)
  · have e1 : ∀ k, (Builtin.zeroCells z.cells k).size = k * ti.size := fun k => by
      rw [← hzs]; exact size_zeroCells _ _
    have hge := grownCap_ge w j 0 e
    rw [Array.size_append, e1, e1, ← Nat.add_mul]
    congr 1
    omega
  · have := grownCap_le_maxLen w j 0 e (by unfold maxLen; omega)
    unfold maxLen at this
    exact this
end
end Go.BX
