/-
  THE ENGINE: what slices.Insert needs: growing by zeros, overlaps, a slice laid open.
  No condition.
-/
import Derived.Test.YtppcdmbkgficiaaBxCall
import Derived.Lib.Overlaps
import Derived.Laws.Externs
namespace Go.BX
open Go.RowKit (Below)

theorem ins_len {α : Type} {xs : List α} {x : α} {i : Nat} (h : i ≤ xs.length) : (xs.take i ++ x :: xs.drop i).length = xs.length + 1 := by
  simp only [List.length_append, List.length_take, List.length_cons, List.length_drop]; omega

theorem Shape.slice_none {α : Type} {sh : Shape α} {S : Nat → Prop} {w : World} {l c : Nat} {xs : List α} (h : sh.slice.rep S w [.slice none l c] xs) : xs = [] := by
  obtain ⟨_, _, _, hE⟩ := Shape.elems_of h
  cases xs with
  | nil => rfl
  | cons x r =>
    obtain ⟨b, o, es, h1, _⟩ := hE 0 x rfl
    cases h1

theorem ins_fact {α : Type} {sh : Shape α} {S : Nat → Prop} {w : World} {C xc R L : List Value} {xs : List α} {x : α} {i : Nat} (hC : EsP sh S w C xs) (hCl : xs.length * sh.size ≤ C.length)
    (hone : ∀ v ∈ C.take (xs.length * sh.size), v.oneCell' = true) (hx : sh.rep S w xc x) (hi : i ≤ xs.length)
    (hL : L = C.take (i * sh.size) ++ xc ++ ((C.drop (i * sh.size)).take ((xs.length - i) * sh.size) ++ R)) :
    EsP sh S w L (xs.take i ++ x :: xs.drop i) ∧ ∀ v ∈ L.take ((xs.take i ++ x :: xs.drop i).length * sh.size), v.oneCell' = true := by
  have him : i * sh.size ≤ xs.length * sh.size := Nat.mul_le_mul_right _ hi
  have hl1 : (C.take (i * sh.size)).length = i * sh.size := by rw [List.length_take]; omega
  have hl2 := sh.len hx
  have hl3 : ((C.drop (i * sh.size)).take ((xs.length - i) * sh.size)).length = (xs.length - i) * sh.size := by
    rw [List.length_take, List.length_drop, Nat.sub_mul]; omega
  have htk : (xs.take i).length = i := by rw [List.length_take]; omega
  have hdk : (xs.drop i).length = xs.length - i := List.length_drop ..
  subst hL
  have hd : EsP sh S w ((C.drop (i * sh.size)).take ((xs.length - i) * sh.size)) (xs.drop i) := by
    have h1 := EsP.take (EsP.drop hC i) (xs.length - i) (by rw [hdk]; exact Nat.le_refl _) (by rw [hdk, List.length_drop, Nat.sub_mul]; omega)
    rwa [List.take_of_length_le (l := xs.drop i) (by rw [hdk]; exact Nat.le_refl _)] at h1
  have e1 : ((xs.take i ++ x :: xs.drop i).length) * sh.size = (C.take (i * sh.size) ++ xc ++ (C.drop (i * sh.size)).take ((xs.length - i) * sh.size)).length := by
    rw [ins_len hi, List.length_append, List.length_append, hl1, hl2, hl3, Nat.sub_mul, Nat.succ_mul]; omega
  refine ⟨?_, fun v hv => ?_⟩
  · rw [List.append_assoc]
    refine EsP.app (by rw [htk, hl1]) (EsP.take hC i hi hCl) (EsP.cons hx (EsP.pre (by rw [hdk, hl3]; exact Nat.le_refl _) hd))
  · rw [← List.append_assoc, e1, List.take_left'] at hv
    · rcases List.mem_append.1 hv with hv | hv
      · rcases List.mem_append.1 hv with hv | hv
        · refine hone v ?_
          have : C.take (i * sh.size) = (C.take (xs.length * sh.size)).take (i * sh.size) := by rw [List.take_take, Nat.min_eq_left him]
          rw [this] at hv
          exact List.mem_of_mem_take hv
        · exact sh.ones hx v hv
      · refine hone v ?_
        have : (C.drop (i * sh.size)).take ((xs.length - i) * sh.size) = (C.take (xs.length * sh.size)).drop (i * sh.size) := by
          rw [List.drop_take, Nat.sub_mul]
        rw [this] at hv
        exact List.mem_of_mem_drop hv
    · rfl

theorem ins_grow {m i n : Nat} {C C' xc N L1 L2 : List Value} (hpre : C'.take (i * m) = C.take (i * m)) (hC : i * m ≤ C.length) (hxc : xc.length = m)
    (h1 : L1 = C'.take (i * m) ++ xc ++ C'.drop (i * m + xc.length)) (hN : N = (C.drop (i * m)).take ((n - i) * m)) (h2 : L2 = L1.take ((i + 1) * m) ++ N ++ L1.drop ((i + 1) * m + N.length)) :
    L2 = C.take (i * m) ++ xc ++ ((C.drop (i * m)).take ((n - i) * m) ++ L1.drop ((i + 1) * m + N.length)) := by
  have hl : (C'.take (i * m) ++ xc).length = (i + 1) * m := by rw [hpre, List.length_append, List.length_take, hxc, Nat.succ_mul]; omega
  have e : L1.take ((i + 1) * m) = C.take (i * m) ++ xc := by rw [h1, ← hl, List.take_left' rfl, hpre]
  rw [h2, e, hN, List.append_assoc]

theorem ins_room {m i n : Nat} {C xc N L1 L2 : List Value} (hC : (i + 1) * m ≤ C.length) (hxc : xc.length = m) (hN : N = (C.drop (i * m)).take ((n - i) * m))
    (h1 : L1 = C.take ((i + 1) * m) ++ N ++ C.drop ((i + 1) * m + N.length)) (h2 : L2 = L1.take (i * m) ++ xc ++ L1.drop (i * m + xc.length)) :
    L2 = C.take (i * m) ++ xc ++ ((C.drop (i * m)).take ((n - i) * m) ++ C.drop ((i + 1) * m + N.length)) := by
  have hl : (C.take ((i + 1) * m)).length = (i + 1) * m := by rw [List.length_take]; omega
  have hle : i * m ≤ (i + 1) * m := by rw [Nat.succ_mul]; omega
  have e1 : L1.take (i * m) = C.take (i * m) := by
    rw [h1, List.append_assoc, List.take_append_of_le_length (by omega), List.take_take, Nat.min_eq_left hle]
  have e2 : L1.drop (i * m + xc.length) = N ++ C.drop ((i + 1) * m + N.length) := by
    rw [hxc, ← Nat.succ_mul, h1, List.append_assoc]
    exact List.drop_left' hl
  rw [h2, e1, e2, hN]

section
variable {w0 w w' : World} {S : Nat → Prop} {O : List Nat} {M : Heap} {W : List OwnS} {G : List Fact}

theorem Hp.toRaw1 {α : Type} {sh : Shape α} {T : TypeId} {a : Option Addr} {len cap : Nat} {xs : List α} {W : List OwnS} (H : Hp w0 S O M (⟨sh, T, .slice a len cap, xs⟩ :: W) G w) (hne : 0 < len) :
    ∃ b c, a = some ⟨b, 0, none⟩ ∧ len = xs.length ∧ c.size = cap * sh.size ∧ xs.length ≤ cap ∧ cap ≤ maxLen ∧ (∀ v ∈ c.toList.take (xs.length * sh.size), v.oneCell' = true) ∧
      Hp w0 S O ((b, .cells c T (0, 0)) :: M) W (Es sh c.toList xs :: G) w := by
  cases a with
  | none =>
    exfalso
    obtain ⟨cs, h1, _⟩ := (H.slc _ (List.mem_cons_self ..)).1
    rcases h1.2 with ⟨hv, h0⟩ | ⟨b, cap', cur, hv, _⟩
    · simp only [Value.slice.injEq] at hv
      omega
    · simp at hv
  | some a =>
    obtain ⟨b, c, rfl, h1, h2, h3, h4, h5, h6⟩ := H.toRaw
    exact ⟨b, c, rfl, h1, h2, h3, h4, h5, h6⟩

theorem Hp.addRp (H : Hp w0 S O M W G w) {α : Type} (sh : Shape α) (cs : List Value) (x : α) (h : sh.rep (Av S w0 O (idsOf M W)) w cs x) : Hp w0 S O M W (Rp sh cs x :: G) w := H.add h

theorem Hp.es (H : Hp w0 S O M W G w) {α : Type} {sh : Shape α} {cs : List Value} {xs : List α} (i : Nat) (h : G[i]? = some (Es sh cs xs)) : EsP sh (Av S w0 O (idsOf M W)) w cs xs := H.fact i h

theorem Hp.raws (H : Hp w0 S O M W G w) {b b' : Nat} {o o' : Obj} (i j : Nat) (hi : M[i]? = some (b, o)) (hj : M[j]? = some (b', o')) (hij : i ≠ j) : b ≠ b' := by
  have hn : (M.map (·.1)).Nodup := (List.nodup_append.1 H.nodup).1
  intro e
  subst e
  have h1 := List.getElem?_eq_some_iff.1 hi
  have h2 := List.getElem?_eq_some_iff.1 hj
  exact hij (nodup_inj hn (by simpa using h1.1) (by simpa using h2.1) (by simp [h1.2, h2.2]))
end

section
variable {P : Program} {n : Nat} {ds : List Deferred} {ops : Array Oper} {K : Env → World → Prop} {l r : List (Nat × Kd)} {σ : Env} {w : World} {κ : Kd} {d : Option Tmp}
variable {w0 : World} {S : Nat → Prop} {O : List Nat} {M : Heap} {W : List OwnS} {G : List Fact}

theorem sliceAt_run0 {T e : TypeId} {m : Nat} (hT : sliceE P T = some (e, m)) {a : Option Addr} {len cap hi : Nat} {hv : Option Value} (h2 : hiOk hv len hi) (hhc : hi ≤ cap) :
    (Instr.sliceAt T (.slice a len cap) none hv none).run P w = .ok (.slice a hi cap) w := by
  have h := sliceAt_run (P := P) (w := w) hT (a := a) (len := len) (cap := cap) (lo := 0) (hi := hi) .nil h2 (Nat.zero_le _) hhc
  have e1 : (if cap = 0 then a else a.map (·.add (0 * m))) = a := by
    split
    · rfl
    · cases a with
      | none => rfl
      | some a => simp [Addr.add]
  rw [e1] at h
  exact h

/-- append(s[:len], make(S, j)...) where there is no room -/
theorem RW.appendZ {T TI ty e : TypeId} {m by_ : Nat} {ik : IntKind} {b len cap j : Nat} {t : Int} {c : Array Value} {Tb : TypeId} (hl : look P n ops l σ = some (.seq, semV (Builtin.append_ #[T, TI] ty #[.slice (some ⟨b, 0, none⟩) len cap, .int .i64 t]), d, r))
    (ht : t = (j : Int)) (hT : elemE P T = some (e, m, by_, true)) (hI : P.underlying TI = some (.int ik)) (H : Hp w0 S O M W G w) (i : Nat) (hi : M[i]? = some (b, .cells c Tb (0, 0))) (hlen : len * m ≤ c.size) (hm : 0 < m)
    (hg : cap < len + j) (hj : 0 < j) (h63 : len + j ≤ 9223372036854775807) (hby : (len + j) * by_ ≤ 140737488355328)
    (h : ∀ b' cc c' w', Hp w0 S O ((b', .cells c' e (0, 0)) :: M) W G w' → c'.size = cc * m → c'.toList.take (len * m) = c.toList.take (len * m) → len + j ≤ cc → cc ≤ 9223372036854775807 →
      RW P ops n ds K r (putO d (.slice (some ⟨b', 0, none⟩) (len + j) cc) σ) w') : RW P ops n ds K l σ w := by
  subst ht
  obtain ⟨hu, ti, z, hti, hz, rfl, rfl, hzs⟩ := elemE_spec hT
  have hcl : c.toList.length = c.size := by simp
  have hol : (c.toList.take (len * ti.size)).length = len * ti.size := by rw [List.length_take]; omega
  obtain ⟨cc, hr, h1, h2⟩ := append_zeros_run (P := P) (w := w) (ty := ty) (b := b) (cap := cap) hu hI hti hz hol (fun q v hq => by
    rw [List.getElem?_take] at hq
    split at hq
    · exact H.cells i hi q v hq
    · cases hq) hg h63 hby (Nat.mul_pos hj hm)
  refine RW.actV hl (semV_run hr) (h _ cc _ _ (H.draw.alloc _) ?_ ?_ h1 (by unfold maxLen at h2; exact h2))
  · simp only [Array.size_append, List.size_toArray, hol]
    have e1 : ∀ k, (Builtin.zeroCells z.cells k).size = k * ti.size := fun k => by
      rw [← hzs]; exact size_zeroCells _ _
    rw [e1, e1, ← Nat.add_mul, ← Nat.add_mul]
    congr 1; omega
  · simp only [Array.toList_append, List.append_assoc]
    rw [List.take_append_of_le_length (by omega), List.take_of_length_le (by omega)]

/-- internal: rows of two blocks do not overlap -/
theorem overlaps_no {g : FuncId} {fn : Func} {T R e : TypeId} {m : Nat} (hf : P.funcs[g]? = some fn) (hname : (fn.name == "runtime.NumGoroutine") = false) (hb : fn.body.isNone = true) (hn : Extern.findNext fn = none)
    (he : Extern.find fn = some (Extern.SlicesOverlaps.overlaps #[T, T] #[R])) (hT : sliceE P T = some (e, m)) (H : Hp w0 S O M W G w) (i j : Nat) (hij : i ≠ j) {b b2 : Nat} {c c2 : Array Value} {T1 T2 : TypeId}
    (hi : M[i]? = some (b, .cells c T1 (0, 0))) (hj : M[j]? = some (b2, .cells c2 T2 (0, 0))) (hc2 : 0 < c2.size) (o1 l1 k1 o2 l2 k2 : Nat) :
    (callFunc g #[.slice (some ⟨b, o1, none⟩) l1 k1, .slice (some ⟨b2, o2, none⟩) l2 k2]).run P w = .ok (.value (.bool false)) w := by
  have hne := H.raws i j hi hj hij
  have g1 := (H.own _ (List.mem_of_getElem? hi)).1
  have g2 := (H.own _ (List.mem_of_getElem? hj)).1
  obtain ⟨hu, ti, hti, rfl⟩ := sliceE_spec hT
  rw [run_callFunc_extern hf hname hb hn he, Lib.run_overlaps_apart w T R e hu ti.size (fun w => by simp [sizeOf, typeInfo, hti]) ⟨b, o1, none⟩ ⟨b2, o2, none⟩ l1 k1 l2 k2 hne T1 T2 c.size c2.size
    (by simp only [World.shape?]; rw [g1]) (by simp only [World.shape?]; rw [g2]) (by omega) (by simp only [World.frozen?]; rw [g1]; simp) (by simp only [World.frozen?]; rw [g1]; simp)]
  rfl
end
end Go.BX
