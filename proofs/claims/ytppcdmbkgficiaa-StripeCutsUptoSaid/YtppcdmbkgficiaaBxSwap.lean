/-
  THE ENGINE: reads and writes of a row of the call's own, in a region that draws its order.
  No condition.
-/
import Derived.Test.YtppcdmbkgficiaaBxHeld
import Derived.Test.YtppcdmbkgficiaaBxOwn
namespace Go.BX

section
variable {P : Program} {n : Nat} {ds : List Deferred} {ops : Array Oper} {K : Env → World → Prop} {l r : List (Nat × Kd)} {σ : Env} {w w1 : World} {κ : Kd} {d : Option Tmp} {Bs : List Nat}
variable {w0 : World} {S : Nat → Prop} {O : List Nat} {M : Heap} {W : List OwnS} {G : List Fact}

theorem RH.indexW {α : Type} {sh : Shape α} {xs : List α} {T e T' : TypeId} {m : Nat} {a : Option Addr} {len cap : Nat} {ik : IntKind} {ix : Int}
    (hl : look P n ops l σ = some (.qui, semV (Instr.indexAt T (.slice a len cap) (.int ik ix)), d, r)) (hS : Chg w1 Bs w) (hT : sliceE P T = some (e, m)) (hm : m = sh.size) (H : Hp w0 S O M (⟨sh, T', .slice a len cap, xs⟩ :: W) G w)
    (k : Nat) (hk : ix = (k : Int)) (hx : k < xs.length) (hlen : len = xs.length)
    (h : ∀ b es, a = some ⟨b, 0, none⟩ → Cells w b (k * m) es → sh.rep (Av S w0 O (idsOf M (⟨sh, T', .slice a len cap, xs⟩ :: W))) w es xs[k] → RH P ops n ds w1 Bs K r (putO d (.pointer (some ⟨b, k * m, none⟩)) σ) w) : RH P ops n ds w1 Bs K l σ w := by
  subst hk
  subst hm
  obtain ⟨b, es, ha, hc, hr⟩ := H.ownCell k hx hlen
  have h2 := h b es ha hc hr
  subst ha
  refine RH.readS hl hS (fun w' _ => semV_run (indexAt_run hT (by omega))) ?_
  rw [Nat.zero_add]; exact h2

theorem RW.storeWC {α : Type} {sh : Shape α} {xs : List α} {e T' : TypeId} {m : Nat} {a : Option Addr} {len cap k b : Nat} {v : Value}
    (hl : look P n ops l σ = some (.seq, semU (Instr.storeAt e (.pointer (some ⟨b, k * m, none⟩)) v), d, r)) (hm : m = sh.size) (ho : storeOk P e m v = true) (H : Hp w0 S O M (⟨sh, T', .slice a len cap, xs⟩ :: W) G w)
    (ha : a = some ⟨b, 0, none⟩) (hx : k < xs.length) (hlen : len = xs.length) (y : α) (hy : sh.rep (Av S w0 O (idsOf M (⟨sh, T', .slice a len cap, xs⟩ :: W))) w v.cells.toList y)
    (h : ∀ w', Chg w [b] w' → Hp w0 S O M (⟨sh, T', .slice a len cap, xs.set k y⟩ :: W) G w' → RW P ops n ds K r (putO d undef σ) w') : RW P ops n ds K l σ w := by
  subst hm
  subst ha
  obtain ⟨c, hg, hfit, H2⟩ := (H.add (F := Rp sh v.cells.toList y) hy).putW hx hlen
  unfold storeOk at ho
  cases hi : P.info? e with
  | none => rw [hi] at ho; cases ho
  | some ti =>
    rw [hi] at ho
    simp only [Bool.and_eq_true] at ho
    have e1 := Nat.eq_of_beq_eq_true ho.1
    have e2 := Nat.eq_of_beq_eq_true ho.2
    simp only [Array.length_toList] at e2 hfit H2
    exact RW.actU hl (semU_run (storeAt_run hg hi (by omega) (List.all_eq_true.2 (sh.ones hy)) hfit rfl)) (h _ ⟨rfl, rfl, rfl, by simp, fun q _ hq => (Array.getElem?_setIfInBounds_ne (fun e => hq (by simp [e])) : (w.heap.setIfInBounds b _)[q]? = _)⟩ H2)

theorem Hp.ownAt {α : Type} {sh : Shape α} {T : TypeId} {b len cap : Nat} {xs : List α} (H : Hp w0 S O M (⟨sh, T, .slice (some ⟨b, 0, none⟩) len cap, xs⟩ :: W) G w) (k : Nat) (hk : k < xs.length) (hl : len = xs.length) :
    ∃ es, Cells w b (k * sh.size) es ∧ sh.rep (Av S w0 O (idsOf M (⟨sh, T, .slice (some ⟨b, 0, none⟩) len cap, xs⟩ :: W))) w es xs[k] := by
  obtain ⟨b2, es, ha, hc, hr⟩ := H.ownCell k hk hl
  cases ha
  exact ⟨es, hc, hr⟩

theorem Hp.neMW {α : Type} {sh : Shape α} {T : TypeId} {b b' len cap : Nat} {ob : Obj} {xs : List α} (H : Hp w0 S O M W G w) (i : Nat) (h : M[i]? = some (b, ob)) (j : Nat) (hj : W[j]? = some ⟨sh, T, .slice (some ⟨b', 0, none⟩) len cap, xs⟩) : b ≠ b' := by
  intro e
  subst e
  have hn := (List.nodup_append.1 H.nodup).2.2
  exact hn b (List.mem_map.2 ⟨_, List.mem_of_getElem? h, rfl⟩) b (List.mem_flatMap.2 ⟨_, List.mem_of_getElem? hj, by simp [OwnS.blk]⟩) rfl
theorem Hp.neFW {α : Type} {sh : Shape α} {T : TypeId} {b o b' len cap : Nat} {cs : List Value} {xs : List α} (H : Hp w0 S O M W G w) (i : Nat) (h : G[i]? = some (Fc b o cs)) (j : Nat) (hj : W[j]? = some ⟨sh, T, .slice (some ⟨b', 0, none⟩) len cap, xs⟩) : b ≠ b' := by
  intro e
  subst e
  have h1 : Av S w0 O (idsOf M W) b := (H.fact i h).2.1
  exact h1.2 (List.mem_append_right _ (List.mem_flatMap.2 ⟨_, List.mem_of_getElem? hj, by simp [OwnS.blk]⟩))
theorem Hp.ownLit {α : Type} {sh : Shape α} {T : TypeId} {a : Option Addr} {len cap : Nat} {xs : List α} (H : Hp w0 S O M (⟨sh, T, .slice a len cap, xs⟩ :: W) G w) (hk : 0 < xs.length) (hl : len = xs.length) : ∃ b, a = some ⟨b, 0, none⟩ := by
  obtain ⟨b, _, ha, _⟩ := H.ownCell 0 hk hl
  exact ⟨b, ha⟩
end
end Go.BX
