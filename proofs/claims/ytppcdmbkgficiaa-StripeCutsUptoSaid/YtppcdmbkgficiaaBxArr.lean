/-
  THE ENGINE's ARRAYS AND NEW SLICES: indices into arrays in memory, make, copy into a slice of the call's own.
  No condition.
-/
import Derived.Test.YtppcdmbkgficiaaBxOwn
import Derived.Test.YtppcdmbkgficiaaBxBv
import Derived.Laws.MakeOwn
namespace Go.BX
open Go.RowKit (Below)

section
variable {P : Program} {n : Nat} {ds : List Deferred} {ops : Array Oper} {K : Env → World → Prop} {l r : List (Nat × Kd)} {σ : Env} {w : World} {κ : Kd} {d : Option Tmp}
variable {w0 : World} {S : Nat → Prop} {O : List Nat} {M : Heap} {W : List OwnS} {G : List Fact}

def arrE (P : Program) (T : TypeId) : Option (Nat × TypeId × Nat) := match P.underlying T with
  | some (.array n e) => (P.info? e).map fun i => (n, e, i.size)
  | _ => none

theorem arrE_spec {T e : TypeId} {N m : Nat} (h : arrE P T = some (N, e, m)) : P.underlying T = some (.array N e) ∧ ∃ i, P.info? e = some i ∧ i.size = m := by
  unfold arrE at h
  split at h
  · rename_i n' e' hu
    cases hi : P.info? e' with
    | none => rw [hi] at h; cases h
    | some i =>
      rw [hi] at h
      simp only [Option.map_some, Option.some.injEq, Prod.mk.injEq] at h
      obtain ⟨rfl, rfl, rfl⟩ := h
      exact ⟨hu, i, hi, rfl⟩
  · cases h

theorem indexAt_arr {T e : TypeId} {N m : Nat} (hT : arrE P T = some (N, e, m)) {b o : Nat} {ik : IntKind} {k : Nat} (hk : k < N) :
    (Instr.indexAt T (.pointer (some ⟨b, o, none⟩)) (.int ik (k : Int))).run P w = .ok (.pointer (some ⟨b, o + k * m, none⟩)) w := by
  obtain ⟨hu, i, hi, hm⟩ := arrE_spec hT
  have h0 : ¬ N ≤ k := by omega
  simp [Instr.indexAt, Instr.sureAddr, asIntOf, run_underlying hu, sizeOf, typeInfo, hi, hm, h0, addr_lit]

/-- an index into an array in memory -/
theorem RW.indexP {T e : TypeId} {N m b o o2 : Nat} {ik : IntKind} {ix : Int} (hl : look P n ops l σ = some (κ, semV (Instr.indexAt T (.pointer (some ⟨b, o, none⟩)) (.int ik ix)), d, r)) (hT : arrE P T = some (N, e, m))
    (k : Nat) (hk : ix = (k : Int)) (hx : k < N) (ho : o2 = o + k * m) (h : RW P ops n ds K r (putO d (.pointer (some ⟨b, o2, none⟩)) σ) w) : RW P ops n ds K l σ w := by
  subst hk
  subst ho
  exact RW.readS hl (fun w' _ => semV_run (indexAt_arr hT hx)) h

theorem Hp.ownAt {α : Type} {sh : Shape α} {T : TypeId} {b len cap : Nat} {xs : List α} (H : Hp w0 S O M (⟨sh, T, .slice (some ⟨b, 0, none⟩) len cap, xs⟩ :: W) G w) (k : Nat) (hk : k < xs.length) (hl : len = xs.length) :
    ∃ es, Cells w b (k * sh.size) es ∧ sh.rep (Av S w0 O (idsOf M (⟨sh, T, .slice (some ⟨b, 0, none⟩) len cap, xs⟩ :: W))) w es xs[k] := by
  obtain ⟨b', es, ha, hc, hr⟩ := H.ownCell k hk hl
  simp only [Option.some.injEq, Addr.mk.injEq, and_true] at ha
  subst ha
  exact ⟨es, hc, hr⟩

theorem Hp.ownBv {kd : IntKind} {N : Nat} {T : TypeId} {b len cap : Nat} {xs : List (BitVec N)} (H : Hp w0 S O M (⟨Shape.bv kd N, T, .slice (some ⟨b, 0, none⟩) len cap, xs⟩ :: W) G w) (k : Nat) (hk : k < xs.length) (hl : len = xs.length) :
    Cells w b k [.int kd ((xs[k].toNat : Nat) : Int)] := by
  obtain ⟨es, hc, hr⟩ := H.ownAt k hk hl
  obtain rfl := hr
  have e : k * (Shape.bv kd N).size = k := Nat.mul_one k
  rwa [e] at hc

/-- a store into an array in memory -/
theorem RW.storeP {α : Type} {sh : Shape α} {xs : List α} {e T' : TypeId} {m : Nat} {len cap k b o2 : Nat} {v : Value}
    (hl : look P n ops l σ = some (.seq, semU (Instr.storeAt e (.pointer (some ⟨b, o2, none⟩)) v), d, r)) (ho2 : o2 = k * m) (hm : m = sh.size) (ho : storeOk P e m v = true) (H : Hp w0 S O M (⟨sh, T', .slice (some ⟨b, 0, none⟩) len cap, xs⟩ :: W) G w)
    (hx : k < xs.length) (hlen : len = xs.length) (y : α) (hy : sh.rep (Av S w0 O (idsOf M (⟨sh, T', .slice (some ⟨b, 0, none⟩) len cap, xs⟩ :: W))) w v.cells.toList y)
    (h : ∀ w', Hp w0 S O M (⟨sh, T', .slice (some ⟨b, 0, none⟩) len cap, xs.set k y⟩ :: W) G w' → RW P ops n ds K r (putO d undef σ) w') : RW P ops n ds K l σ w := by
  subst ho2
  exact RW.storeW hl hm ho H rfl hx hlen y hy h

/-- a block of the call's own that is not written any more -/
theorem Hp.freezeM {b : Nat} {c : Array Value} {T : TypeId} {fz : Nat × Nat} (H : Hp w0 S O ((b, .cells c T fz) :: M) W G w) (hc : 0 < c.toList.length := by simp) : Hp w0 S O M W (Fc b 0 c.toList :: G) w := by
  have h1 := H.cells 0 rfl
  have hb := (H.own _ (List.mem_cons_self ..)).2
  have hnd := H.nodup
  have hn : b ∉ idsOf M W := (List.nodup_cons.1 (by simpa [idsOf] using hnd : (b :: idsOf M W).Nodup)).1
  exact (H.drop (M' := M) (W' := W) (List.sublist_cons_self _ _) (List.Sublist.refl _)).add ⟨hc, ⟨.inr hb, hn⟩, h1⟩

/-- a block of the call's own of numbers, all the same, as a slice of its own -/
theorem Hp.toOwnN {α : Type} {sh : Shape α} {T : TypeId} {b N : Nat} {v0 : Value} {x0 : α} (H : Hp w0 S O ((b, .cells (Array.replicate N v0) T (0, 0)) :: M) W G w) (hm : sh.size = 1) (hN : N ≤ maxLen) (len : Nat) (hle : len ≤ N) (hz : ∀ S w, sh.rep S w [v0] x0) :
    Hp w0 S O M (⟨sh, T, .slice (some ⟨b, 0, none⟩) len N, List.replicate len x0⟩ :: W) G w := by
  have h1 : v0.oneCell' = true := sh.ones (hz (fun _ => True) w) v0 (by simp)
  have := Hp.toOwn (sh := sh) (xs := List.replicate len x0) (cap := N) H (by simp [hm]) (by simpa using hle) hN (fun v hv => by
    have := List.mem_of_mem_take hv
    simp only [Array.toList_replicate, List.mem_replicate] at this
    rw [this.2]; exact h1) (fun j x hx => by
    have hj := (List.getElem?_eq_some_iff.1 hx).1
    simp only [List.length_replicate] at hj
    rw [List.getElem?_replicate, if_pos hj] at hx
    cases hx
    have e : ((Array.replicate N v0).toList.drop (j * sh.size)).take sh.size = [v0] := by
      rw [hm, Array.toList_replicate, List.drop_replicate, List.take_replicate, Nat.mul_one, Nat.min_eq_left (by omega)]
      rfl
    rw [e]; exact hz _ _)
  rwa [List.length_replicate] at this

theorem madeCells_one (v0 : Value) (N : Nat) : madeCells #[v0] N = Array.replicate N v0 := by
  apply Array.ext
  · simp [madeCells]
  · intro i h1 h2
    simp [madeCells, Nat.mod_one]

def elemZ (P : Program) (T : TypeId) : Option (TypeId × Nat × Value) := match P.underlying T with
  | some (.slice e) => match P.info? e with
    | some i => match i.zero with
      | some z => match z.cells.toList with
        | [v0] => cond (Nat.beq i.size 1) (some (e, i.bytes, v0)) none
        | _ => none
      | none => none
    | none => none
  | _ => none
theorem elemZ_spec {T e : TypeId} {by_ : Nat} {v0 : Value} (h : elemZ P T = some (e, by_, v0)) : P.underlying T = some (.slice e) ∧ ∃ i z, P.info? e = some i ∧ i.zero = some z ∧ i.size = 1 ∧ i.bytes = by_ ∧ z.cells = #[v0] := by
  unfold elemZ at h
  split at h
  · rename_i e' hu
    split at h
    · rename_i i hi
      split at h
      · rename_i z hz
        split at h
        · rename_i v0' hv
          cases hb : Nat.beq i.size 1 with
          | false => rw [hb] at h; cases h
          | true =>
            rw [hb] at h
            simp only [cond_true, Option.some.injEq, Prod.mk.injEq] at h
            obtain ⟨rfl, rfl, rfl⟩ := h
            refine ⟨hu, i, z, hi, hz, Nat.eq_of_beq_eq_true hb, rfl, ?_⟩
            rw [← Array.toArray_toList (xs := z.cells), hv]
        · cases h
      · cases h
    · cases h
  · cases h

/-- make([]T, l, c) -/
theorem RW.makeW {α : Type} (sh : Shape α) {T e : TypeId} {by_ : Nat} {v0 : Value} (x0 : α) {kl kc : IntKind} {lv cv : Int} (hl : look P n ops l σ = some (κ, semV (Instr.makeSlice T (.int kl lv) (.int kc cv)), d, r)) (hκ : κ ≠ .qui)
    (hT : elemZ P T = some (e, by_, v0)) (hm : sh.size = 1) (H : Hp w0 S O M W G w) (ln cn : Nat) (h1 : lv = (ln : Int)) (h2 : cv = (cn : Int)) (hle : ln ≤ cn) (hby : cn * by_ ≤ 140737488355328) (hcn : cn ≤ 140737488355328) (hz : ∀ S w, sh.rep S w [v0] x0)
    (h : ∀ b w', Hp w0 S O M (⟨sh, e, .slice (some ⟨b, 0, none⟩) ln cn, List.replicate ln x0⟩ :: W) G w' → RW P ops n ds K r (putO d (.slice (some ⟨b, 0, none⟩) ln cn) σ) w') : RW P ops n ds K l σ w := by
  subst h1
  subst h2
  obtain ⟨hu, i, z, hi, hzz, hs, hb, hc⟩ := elemZ_spec hT
  have hr := run_make (P := P) w T e i z hu hi hzz kl kc (ln : Int) (cn : Int) (by omega) (by omega) (by
    have : ((cn * by_ : Nat) : Int) ≤ 140737488355328 := by omega
    rw [Int.natCast_mul] at this
    rw [hb, Int.mul_comm]; omega) (by omega)
  simp only [Int.toNat_natCast, hs, hc, Nat.mul_one, madeCells_one] at hr
  have H2 := (H.alloc (.cells (Array.replicate cn v0) e (0, 0))).toOwnN (sh := sh) (x0 := x0) hm (by unfold maxLen; omega) ln hle hz
  refine RW.makeS hl hκ (semV_run hr) ?_ (h _ _ H2)
  exact ⟨rfl, rfl, rfl, (by show w.heap.size ≤ (w.heap.push _).size; simp), fun k hk => by
    show (w.heap.push _)[k]? = _
    rw [Array.getElem?_push, if_neg (by omega)]⟩

theorem copy_zero_run {T T2 e ty : TypeId} {m : Nat} (hT : sliceE P T = some (e, m)) {a a2 : Option Addr} {dl dc sl sc : Nat} (h0 : min sl dl = 0) :
    (Builtin.copy_ #[T, T2] ty #[.slice a dl dc, .slice a2 sl sc]).run P w = .ok (goInt (0 : Nat)) w := by
  obtain ⟨hu, i, hi, hm⟩ := sliceE_spec hT
  have hmin : Nat.min sl dl = 0 := h0
  cases a <;> cases a2 <;> simp [Builtin.copy_, run_underlying hu, sizeOf, typeInfo, hi, Builtin.lenOf, hmin, Builtin.firstCells, loadCells, loadCellsFrom, storeCells]

/-- copy into a slice of the call's own, from its beginning -/
theorem RW.copyW {α : Type} {sh : Shape α} {xs ys zs : List α} {T T2 e T' ty : TypeId} {m : Nat} {a a2 : Option Addr} {dl dc sl sc : Nat} (hl : look P n ops l σ = some (.seq, semV (Builtin.copy_ #[T, T2] ty #[.slice a dl dc, .slice a2 sl sc]), d, r))
    (hT : sliceE P T = some (e, m)) (hm : m = sh.size) (H : Hp w0 S O M (⟨sh, T', .slice a dl dc, xs⟩ :: W) G w) (g : Nat) (hg : G[g]? = some (Rp sh.slice [.slice a2 sl sc] ys)) (hlen : dl = xs.length) (hz : ys.take xs.length ++ xs.drop ys.length = zs)
    (h : ∀ w', Hp w0 S O M (⟨sh, T', .slice a dl dc, zs⟩ :: W) G w' → RW P ops n ds K r (putO d (goInt (min sl dl : Nat)) σ) w') : RW P ops n ds K l σ w := by
  subst hm
  obtain ⟨rfl, k1, k2, hE⟩ := Shape.elems_of (H.rp g hg)
  by_cases h0 : min ys.length dl = 0
  · have e : zs = xs := by
      rw [← hz]
      rcases Nat.eq_zero_or_pos xs.length with hx | hx
      · rw [List.eq_nil_of_length_eq_zero hx]; simp
      · have : ys.length = 0 := by omega
        rw [List.eq_nil_of_length_eq_zero this]; simp
    subst e
    have h2 := h w H
    rw [h0] at h2
    exact RW.actV hl (semV_run (copy_zero_run hT h0)) h2
  · obtain ⟨b2, o2, news, rfl, hS2, hn, hc, h1, hr⟩ := elems_flat hE (by intro e; subst e; simp at h0)
    obtain ⟨b, c, rfl, -, hcs, k3, k4, k5, HR⟩ := H.toRaw1 (by omega)
    have hmle : min ys.length dl * sh.size ≤ ys.length * sh.size := Nat.mul_le_mul_right _ (Nat.min_le_left _ _)
    have hmle2 : min ys.length dl * sh.size ≤ xs.length * sh.size := Nat.mul_le_mul_right _ (by omega)
    have hmle3 : xs.length * sh.size ≤ dc * sh.size := Nat.mul_le_mul_right _ k3
    have hnl : (news.take (min ys.length dl * sh.size)).length = min ys.length dl * sh.size := by rw [List.length_take]; omega
    have hcl : c.toList.length = dc * sh.size := by simpa using hcs
    have hrun := copy_run (P := P) (w := w) (T2 := T2) (ty := ty) hT (dl := dl) (dc := dc) (sl := ys.length) (sc := sc) (HR.own _ (List.mem_cons_self ..)).1 (o := 0) (so := o2) (news := news.take (min ys.length dl * sh.size)) (o1 := 0) (o2 := o2) (sb := b2) hnl
      (fun j v hj => hc j v (by rw [List.getElem?_take] at hj; split at hj; exact hj; cases hj)) (fun v hv => h1 v (List.mem_of_mem_take hv)) (fun _ => rfl) (fun _ => rfl) (by rw [hnl]; omega) (by omega)
    refine RW.actV hl (semV_run hrun) (h _ ?_)
    have HP := HR.put 0 rfl (.cells (c.toList.take 0 ++ news.take (min ys.length dl * sh.size) ++ c.toList.drop (0 + (news.take (min ys.length dl * sh.size)).length)).toArray T' (0, 0))
    rw [List.take_zero, List.nil_append, Nat.zero_add, hnl] at HP ⊢
    have hzl : zs.length = xs.length := by
      rw [← hz]; simp; omega
    have HF : Hp w0 S O M (⟨sh, T', .slice (some ⟨b, 0, none⟩) zs.length dc, zs⟩ :: W) (Es sh c.toList xs :: G) { w with heap := w.heap.setIfInBounds b (.cells (news.take (min ys.length dl * sh.size) ++ c.toList.drop (min ys.length dl * sh.size)).toArray T' (0, 0)) } := by
      refine HP.toOwn (by simp [hnl]; omega) (by omega) k4 (fun v hv => ?_) ?_
      · rw [hzl, List.take_append, hnl] at hv
        rcases List.mem_append.1 hv with hv | hv
        · exact h1 v (List.mem_of_mem_take (List.mem_of_mem_take hv))
        · rw [← List.drop_take] at hv
          exact k5 v (List.mem_of_mem_drop hv)
      · show EsP sh _ _ (news.take (min ys.length dl * sh.size) ++ c.toList.drop (min ys.length dl * sh.size)) zs
        rw [← hz]
        have e1 : ys.take xs.length = ys.take (min ys.length dl) := by
          rw [hlen]
          rcases Nat.le_total ys.length xs.length with hq | hq
          · rw [Nat.min_eq_left hq, List.take_of_length_le hq, List.take_of_length_le (Nat.le_refl _)]
          · rw [Nat.min_eq_right hq]
        have e2 : xs.drop ys.length = xs.drop (min ys.length dl) := by
          rw [hlen]
          rcases Nat.le_total ys.length xs.length with hq | hq
          · rw [Nat.min_eq_left hq]
          · rw [Nat.min_eq_right hq, List.drop_of_length_le hq, List.drop_of_length_le (Nat.le_refl _)]
        rw [e1, e2]
        refine EsP.app (by rw [hnl, List.length_take]; congr 1; omega) ?_ ((HP.es 0 rfl).drop _)
        have hy : EsP sh _ _ news ys := hr
        refine EsP.take (fun j x hx => sh.step (hy j x hx) fun q hq hlt => ?_) _ (Nat.min_le_left _ _) (by omega)
        have hne : q ≠ b := by
          intro e; subst e
          exact hq.2 (by simp [idsOf, OwnS.blk])
        refine ⟨⟨hq.1, fun hi => hq.2 ?_⟩, ?_⟩
        · simp only [idsOf, List.map_cons, List.cons_append, List.mem_cons, List.mem_append, List.flatMap_cons, OwnS.blk] at hi ⊢
          rcases hi with h | h | h
          · exact .inr (.inl (by simp [h]))
          · exact .inl h
          · exact .inr (.inr (.inr h))
        · show (w.heap.setIfInBounds b _)[q]? = _
          rw [Array.getElem?_setIfInBounds_ne (Ne.symm hne)]
    rw [hzl, ← hlen] at HF
    exact HF.facts_sub fun F hF => List.mem_cons_of_mem _ hF

theorem sliceAt_arr {T e : TypeId} {N m : Nat} (hT : arrE P T = some (N, e, m)) {b hi : Nat} {hv : Option Value} (h2 : hiOk hv N hi) (hh : hi ≤ N) :
    (Instr.sliceAt T (.pointer (some ⟨b, 0, none⟩)) none hv none).run P w = .ok (.slice (some ⟨b, 0, none⟩) hi N) w := by
  obtain ⟨hu, i, hi', hm⟩ := arrE_spec hT
  rcases h2 with ⟨rfl, rfl⟩ | ⟨kk, rfl⟩
  · by_cases h0 : hi = 0
    · subst h0; simp [Instr.sliceAt, Instr.sureAddr, Instr.sliceBounds, run_underlying hu, sizeOf, typeInfo, hi', hm]
    · simp [Instr.sliceAt, Instr.sureAddr, Instr.sliceBounds, run_underlying hu, sizeOf, typeInfo, hi', hm, addr_lit, h0]
  · by_cases h0 : N = 0
    · subst h0
      have : hi = 0 := by omega
      subst this
      simp [Instr.sliceAt, Instr.sureAddr, Instr.sliceBounds, Instr.sliceBound, asIntOf, run_underlying hu, sizeOf, typeInfo, hi', hm]
    · have h3 : (hi : Int) ≤ (N : Int) := by omega
      simp [Instr.sliceAt, Instr.sureAddr, Instr.sliceBounds, Instr.sliceBound, asIntOf, run_underlying hu, sizeOf, typeInfo, hi', hm, addr_lit, h0, h3]
      intro h4; exact absurd hh (by omega)

/-- the head of an array of the call's own, as a slice -/
theorem RW.sliceP {α : Type} {sh : Shape α} {xs : List α} {T e T' : TypeId} {N m len cap b : Nat} {hv : Option Value} (hl : look P n ops l σ = some (κ, semV (Instr.sliceAt T (.pointer (some ⟨b, 0, none⟩)) none hv none), d, r)) (hT : arrE P T = some (N, e, m))
    (H : Hp w0 S O M (⟨sh, T', .slice (some ⟨b, 0, none⟩) len cap, xs⟩ :: W) G w) (hi : Nat) (h2 : hiOk hv N hi) (hh : hi ≤ N) (hlen : len = xs.length) (hN : len = N) (hc : cap = N) (hpos : 0 < N)
    (h : Hp w0 S O M (⟨sh, T', .slice (some ⟨b, 0, none⟩) hi N, xs.take hi⟩ :: W) G w → RW P ops n ds K r (putO d (.slice (some ⟨b, 0, none⟩) hi N) σ) w) : RW P ops n ds K l σ w := by
  subst hc
  exact RW.readS hl (fun w' _ => semV_run (sliceAt_arr hT h2 hh)) (h (H.cutN hi (by omega) hlen (by omega)))

theorem Shape.rep_take {α : Type} {sh : Shape α} {S : Nat → Prop} {w : World} {a : Option Addr} {len cap : Nat} {xs ys : List α} (h : sh.slice.rep S w [.slice a len cap] xs) (k : Nat) (hk : k ≤ xs.length) (hy : xs.take k = ys) : sh.slice.rep S w [.slice a ys.length cap] ys := by
  obtain ⟨_, h2, h3, hE⟩ := Shape.elems_of h
  subst hy
  refine ⟨a, cap, rfl, by rw [List.length_take]; omega, h3, fun i x hx => ?_⟩
  rw [List.getElem?_take] at hx
  split at hx
  · exact hE i x hx
  · cases hx
/-- what a callee that may read all memory has made: of numbers alone, it may lie anywhere -/
theorem Hp.reSbv {S1 S2 : Nat → Prop} {kd : IntKind} {N : Nat} {T : TypeId} {v : Value} {xs : List (BitVec N)} (H : Hp w0 S1 O [] [⟨Shape.bv kd N, T, v, xs⟩] [] w) : Hp w0 S2 O [] [⟨Shape.bv kd N, T, v, xs⟩] [] w := by
  refine ⟨H.below, fun p hp => (by cases hp), fun o ho => ?_, H.nodup, fun F hF => (by cases hF)⟩
  have h := H.slc o ho
  rw [List.mem_singleton] at ho
  subst ho
  obtain ⟨⟨cs, h1, h2, h3⟩, h4⟩ := h
  exact ⟨⟨cs, h1, h2, h3⟩, h4⟩
end
end Go.BX
