import Derived.Shelf.Strconv.Quote
import Derived.Shelf.Strconv.Itoa3
import Derived.Shelf.SlIter.Nil
import Derived.Shelf.SortM.Plain
import Derived.Shelf.SortM.SortNone
import Derived.Shelf.SlMaps.Clone
import Derived.Test.YtcodkepdolmmbaaDoorSL1
import Derived.Test.YtcodkepdolmmbaaDoorSW1
namespace Go.Proofs.YtcodkepdolmmbaaDoor
open Go.Proofs Go.BX
def pairsL (L : List (ByteArray × ByteArray × Nat)) : Tb := L.map fun e => (e.1, e.2.1)
def sortedT (S : Tb) : Prop := S.Pairwise fun p q => p.1.data.toList < q.1.data.toList
structure TabOk (L : List (ByteArray × ByteArray × Nat)) (c : Nat) (S : Tb) : Prop where
 ok : MOk L c
 perm : (pairsL L).Perm S
 srt : sortedT S
theorem TabOk.nil : TabOk [] 0 [] := ⟨MOk.nil, List.Perm.refl _, List.Pairwise.nil⟩
theorem pairs_keys (L : List (ByteArray × ByteArray × Nat)) : (pairsL L).map (·.1) = L.map (·.1) := by
 unfold pairsL; rw [List.map_map]; rfl
theorem keys_nodup {L : List (ByteArray × ByteArray × Nat)} {c : Nat} {S : Tb} (h : TabOk L c S) : (S.map (·.1)).Nodup := by
 have := (h.perm.map (·.1)).nodup_iff.1 (by rw [pairs_keys]; exact h.ok.keys)
 exact this
theorem mfind_mem {k v : ByteArray} : ∀ {L : List (ByteArray × ByteArray × Nat)}, (L.map (·.1)).Nodup → (mfind k L = some v ↔ (k, v) ∈ pairsL L)
 | [], _ => by simp [mfind, pairsL]
 | e :: l, h => by
  obtain ⟨h1, h2⟩ := List.nodup_cons.1 h
  have ih := mfind_mem (k := k) (v := v) h2
  unfold mfind
  by_cases he : e.1 = k
  · rw [if_pos he]
    subst he
    constructor
    · intro q
      injection q with q
      subst q
      exact List.mem_cons_self ..
    · intro q
      rcases List.mem_cons.1 q with q | q
      · injection q with _ q
        rw [q]
      · exact absurd (List.mem_map.2 ⟨_, q, rfl⟩) (by
         show e.1 ∉ (pairsL l).map (·.1)
         rw [pairs_keys]; exact h1)
  · rw [if_neg he, ih]
    constructor
    · exact fun q => List.mem_cons_of_mem _ q
    · intro q
      rcases List.mem_cons.1 q with q | q
      · injection q with q _
        exact absurd q.symm he
      · exact q
theorem tget_mem {k v : ByteArray} : ∀ {S : Tb}, (S.map (·.1)).Nodup → (tget S k = some v ↔ (k, v) ∈ S)
 | [], _ => by simp [tget]
 | p :: r, h => by
  obtain ⟨h1, h2⟩ := List.nodup_cons.1 h
  have ih := tget_mem (k := k) (v := v) h2
  unfold tget at ih ⊢
  by_cases he : p.1 = k
  · rw [List.find?_cons_of_pos (by simpa using he)]
    subst he
    constructor
    · intro q
      injection q with q
      subst q
      exact List.mem_cons_self ..
    · intro q
      rcases List.mem_cons.1 q with q | q
      · exact congrArg some (congrArg Prod.snd q).symm
      · exact absurd (List.mem_map.2 ⟨_, q, rfl⟩) h1
  · rw [List.find?_cons_of_neg (by simpa using he), ih]
    constructor
    · exact fun q => List.mem_cons_of_mem _ q
    · intro q
      rcases List.mem_cons.1 q with q | q
      · exact absurd (congrArg Prod.fst q).symm he
      · exact q
theorem TabOk.find {L : List (ByteArray × ByteArray × Nat)} {c : Nat} {S : Tb} (h : TabOk L c S) (k : ByteArray) : mfind k L = tget S k :=
 Option.ext fun v => by rw [mfind_mem h.ok.keys, tget_mem (keys_nodup h)]; exact h.perm.mem_iff
theorem mset_perm {k v : ByteArray} {c : Nat} : ∀ {L : List (ByteArray × ByteArray × Nat)}, (L.map (·.1)).Nodup → (pairsL (mset k v c L)).Perm ((k, v) :: tdel (pairsL L) k)
 | [], _ => List.Perm.refl _
 | e :: l, h => by
  obtain ⟨h1, h2⟩ := List.nodup_cons.1 h
  unfold mset
  by_cases he : e.1 = k
  · rw [if_pos he]
    subst he
    have : tdel (pairsL (e :: l)) e.1 = pairsL l := by
     show List.filter _ ((e.1, e.2.1) :: pairsL l) = _
     rw [List.filter_cons_of_neg (by simp), List.filter_eq_self.2]
     intro p hp
     simp only [decide_eq_true_eq]
     intro q
     exact h1 (by rw [← pairs_keys]; exact List.mem_map.2 ⟨p, hp, q⟩)
    rw [this]; exact List.Perm.refl _
  · rw [if_neg he]
    have : tdel (pairsL (e :: l)) k = (e.1, e.2.1) :: tdel (pairsL l) k := by
     show List.filter _ ((e.1, e.2.1) :: pairsL l) = _
     rw [List.filter_cons_of_pos (by simpa using he)]; rfl
    rw [this]
    exact ((mset_perm h2).cons (e.1, e.2.1)).trans (List.Perm.swap ..)
theorem mdel_pairs {k : ByteArray} : ∀ {L : List (ByteArray × ByteArray × Nat)}, (L.map (·.1)).Nodup → pairsL (mdel k L) = tdel (pairsL L) k
 | [], _ => rfl
 | e :: l, h => by
  obtain ⟨h1, h2⟩ := List.nodup_cons.1 h
  unfold mdel
  by_cases he : e.1 = k
  · rw [if_pos he]
    subst he
    show _ = List.filter _ ((e.1, e.2.1) :: pairsL l)
    rw [List.filter_cons_of_neg (by simp), List.filter_eq_self.2]
    intro p hp
    simp only [decide_eq_true_eq]
    intro q
    exact h1 (by rw [← pairs_keys]; exact List.mem_map.2 ⟨p, hp, q⟩)
  · rw [if_neg he]
    show (e.1, e.2.1) :: pairsL (mdel k l) = List.filter _ ((e.1, e.2.1) :: pairsL l)
    rw [List.filter_cons_of_pos (by simpa using he), mdel_pairs h2]; rfl
theorem tins_perm (k v : ByteArray) : ∀ (S : Tb), (tins k v S).Perm ((k, v) :: S)
 | [] => List.Perm.refl _
 | p :: r => by
  unfold tins
  split
  · exact List.Perm.refl _
  · exact ((tins_perm k v r).cons p).trans (List.Perm.swap ..)
theorem lt_or {a b : ByteArray} (h : a ≠ b) : a.data.toList < b.data.toList ∨ b.data.toList < a.data.toList := by
 by_cases h1 : a.data.toList < b.data.toList
 · exact .inl h1
 by_cases h2 : b.data.toList < a.data.toList
 · exact .inr h2
 · exact absurd (bytes_of (List.le_antisymm (List.not_lt.1 h2) (List.not_lt.1 h1))) h
theorem tins_sorted {k v : ByteArray} : ∀ {S : Tb}, sortedT S → (∀ p ∈ S, p.1 ≠ k) → sortedT (tins k v S)
 | [], _, _ => List.pairwise_singleton _ _
 | p :: r, h, hk => by
  obtain ⟨h1, h2⟩ := List.pairwise_cons.1 h
  unfold tins
  by_cases hl : klt k p.1 = true
  · rw [if_pos hl]
    have hl' : k.data.toList < p.1.data.toList := by simpa [klt] using hl
    refine List.pairwise_cons.2 ⟨fun q hq => ?_, h⟩
    rcases List.mem_cons.1 hq with rfl | hq
    · exact hl'
    · exact List.lt_trans hl' (h1 q hq)
  · rw [if_neg hl]
    have hl' : ¬ k.data.toList < p.1.data.toList := by simpa [klt] using hl
    have hp : p.1.data.toList < k.data.toList := (lt_or (hk p (List.mem_cons_self ..))).resolve_right hl'
    refine List.pairwise_cons.2 ⟨fun q hq => ?_, tins_sorted h2 fun q hq => hk q (List.mem_cons_of_mem _ hq)⟩
    rcases List.mem_cons.1 ((tins_perm k v r).mem_iff.1 hq) with rfl | hq
    · exact hp
    · exact h1 q hq
theorem tdel_mem {S : Tb} {k : ByteArray} : ∀ p ∈ tdel S k, p.1 ≠ k := fun p hp => by simpa using (List.mem_filter.1 hp).2
theorem TabOk.put {L : List (ByteArray × ByteArray × Nat)} {c : Nat} {S : Tb} (h : TabOk L c S) (k v : ByteArray) : TabOk (mset k v c L) (mclk k c L) (tput S k v) :=
 ⟨h.ok.set k v, (mset_perm h.ok.keys).trans (((h.perm.filter _).cons (k, v)).trans (tins_perm k v _).symm), tins_sorted (h.srt.filter _) tdel_mem⟩
theorem TabOk.del {L : List (ByteArray × ByteArray × Nat)} {c : Nat} {S : Tb} (h : TabOk L c S) (k : ByteArray) : TabOk (mdel k L) c (tdel S k) :=
 ⟨h.ok.del k, by rw [mdel_pairs h.ok.keys]; exact h.perm.filter _, h.srt.filter _⟩
theorem TabOk.len {L : List (ByteArray × ByteArray × Nat)} {c : Nat} {S : Tb} (h : TabOk L c S) : L.length = S.length := by
 have := h.perm.length_eq
 unfold pairsL at this
 rwa [List.length_map] at this
theorem names_sorted {L : List (ByteArray × ByteArray × Nat)} {c : Nat} {S : Tb} (h : TabOk L c S) {ss : List (List UInt8)} (hs : ss.Perm (L.map fun e => e.1.data.toList)) :
 (ss.mergeSort fun x y => decide (x ≤ y)) = S.map fun p => p.1.data.toList := by
 have tr : ∀ a b c : List UInt8, decide (a ≤ b) = true → decide (b ≤ c) = true → decide (a ≤ c) = true := fun a b c h1 h2 => by simp only [decide_eq_true_eq] at *; exact List.le_trans h1 h2
 have to : ∀ a b : List UInt8, (decide (a ≤ b) || decide (b ≤ a)) = true := fun a b => by simp only [Bool.or_eq_true, decide_eq_true_eq]; exact List.le_total a b
 have hp : (S.map fun p => p.1.data.toList).Perm (L.map fun e => e.1.data.toList) := by
  have := (h.perm.symm.map fun p => p.1.data.toList)
  unfold pairsL at this
  rwa [List.map_map] at this
 refine List.Perm.eq_of_pairwise (le := fun a b => decide (a ≤ b) = true) (fun a b _ _ h1 h2 => ?_) (List.pairwise_mergeSort tr to ss) ?_ (((List.mergeSort_perm ss _).trans hs).trans hp.symm)
 · simp only [decide_eq_true_eq] at h1 h2
   exact List.le_antisymm h1 h2
 · refine List.pairwise_map.2 (h.srt.imp fun q => ?_)
   simp only [decide_eq_true_eq]
   exact List.le_of_lt q
open Go.RowKit Go.Shelf Go.BX Go.Maps Go.Sort
attribute [local go_sem] Oper.semAt_some
def szT (S : Tb) : Prop := S.length ≤ 1048576 ∧ ∀ p ∈ S, p.1.size ≤ 1048576 ∧ p.2.size ≤ 1048576
def rdT {H : Type} : Value → Option (DataW H × List MemPlace) := fun _ => some (.lit (.bool true), [])
theorem entS_key {x : ByteArray × ByteArray × Nat} (h : x.1.size ≤ maxLen) : Go.WideElems.rd (H := Unit) Tryd.prog 9 rdT (ent Value.string Value.string x) = some (.string x.1.data.toList, .lit (.bool true)) := by
 refine Go.WideElems.rd_mk (R := rdT) (yv := (.lit (.bool true), [])) ?_ rfl
 simp [keyOf, Tryd.underlying9, mapKey, ent, h]
theorem tab_owns {tb c : Nat} {L : List (ByteArray × ByteArray × Nat)} {S : Tb} {w : World} (hT : TabOk L c S) (hz : szT S) (hb : w.heap[tb]? = some (mapO Value.string Value.string L c)) :
 ∃ D : DataW Unit, w.ownsMap Tryd.prog 9 rdT tb L.length D ∧ Maps.size D = L.length ∧ (strKeys D).Perm (L.map fun e => e.1.data.toList) := by
 have hk : ∀ x ∈ L, x.1.size ≤ maxLen := fun x hx => by
  have := (hz.2 (x.1, x.2.1) (hT.perm.mem_iff.1 (List.mem_map.2 ⟨x, hx, rfl⟩))).1
  exact Nat.le_trans this (by decide)
 have hll := hT.len
 refine ⟨_, ⟨_, c, hb, ⟨?_, ⟨?_, ?_, ?_⟩, ?_⟩, by simp, rfl⟩, ?_, ?_⟩
 · simp only [List.size_toArray, List.length_map]
   exact Nat.le_trans (by rw [hll]; exact hz.1) (by decide)
 · intro x hx
   simp only [List.mem_map] at hx
   obtain ⟨y, hy, rfl⟩ := hx
   exact hT.ok.old y hy
 · simp only [List.map_map]
   exact hT.ok.borns
 · simp only [List.map_map]
   have e : ((fun x : MapEntry => x.key) ∘ ent Value.string Value.string) = Value.string ∘ fun x : ByteArray × ByteArray × Nat => x.1 := rfl
   rw [e, ← List.map_map]
   exact hT.ok.keys.map Value.string fun a b h => fun q => h (by injection q)
 · intro x hx
   simp only [List.mem_map] at hx
   obtain ⟨y, hy, rfl⟩ := hx
   exact ⟨_, entS_key (hk y hy)⟩
 · simp [Maps.size, length_sorted]
 · simp only [strKeys]
   refine ((Go.WideShapes.sorted_perm _).map _).trans (List.Perm.of_eq ?_)
   rw [List.map_map, List.map_map]
   refine List.map_congr_left fun x hx => ?_
   have e := Go.WideElems.rg_of (entS_key (hk x hx))
   simp only [Function.comp_apply, e]
   rfl
theorem sortsW (m : Nat) : AnyZ.SortsIn Tryd.prog Tryd.sorted38_ren Fence.wide m :=
 ⟨fun blk off cap ss W hH hblk hsz => callsIn_wide.2 (AnyM.slices_Sort_string Tryd.sort43 blk off cap ss W hH hblk hsz),
  fun p cap W => callsIn_wide.2 (AnyM.slices_Sort_string_none Tryd.sort43 p cap W)⟩
set_option maxHeartbeats 1000000 in
theorem names_run {tb c : Nat} {L : List (ByteArray × ByteArray × Nat)} {S : Tb} {w : World} (hT : TabOk L c S) (hz : szT S) (hb : w.heap[tb]? = some (mapO Value.string Value.string L c)) :
 Calls Tryd.prog 33 #[.map (some tb)] w fun e w' => ∃ v, e = .returned v ∧ w'.ownsRow w.heap.size 9 1 v S.length (S.map fun p => Value.string p.1) ∧ Below w.heap.size w w' := by
 obtain ⟨D0, hown, hsize, hperm⟩ := tab_owns hT hz hb
 have hmax : Maps.size D0 ≤ maxLen := by rw [hsize, hT.len]; exact Nat.le_trans hz.1 (by decide)
 have hbytes : Maps.size D0 * 16 ≤ 140737488355328 := by rw [hsize, hT.len]; have := hz.1; omega
 refine (callsIn_wide (n := 6)).1 ?_
 have hbl := hown.lt
 have hseq : SeqGives Fence.wide 2 Tryd.prog 44 #[.pointer (some ⟨w.heap.size, 0, none⟩)] encStr (fun ss => ss.Perm (strKeys D0)) (Maps.size D0) (w.alloc (.cells #[.map (some tb)] 56)) :=
  AnyZ.keys_gives (ρ := Tryd.keys39_ren) { Tryd.keys39 with } Fence.wide _ trivial rfl (by omega) w.heap.size tb L.length D0 _ (by simp) (by simp) (by
   obtain ⟨es, clock, hb, Ft, hs, hD⟩ := hown
   exact ⟨es, clock, (Below.heap_alloc _ _ tb hbl).trans hb, Ft, hs, hD⟩)
 have cK : ∀ mb W, CallsIn Fence.wide 5 Tryd.prog 39 #[.map mb] W fun e w' => e = .returned (.func (.func 44) #[] #[.pointer (some ⟨W.heap.size, 0, none⟩)]) ∧ w' = W.alloc (.cells #[.map mb] 56) := fun mb W => AnyZ.keys_in Tryd.keys39 Fence.wide 5 trivial rfl mb W
 have cS := AnyZ.sorted_in Tryd.sorted38 Fence.wide 5 trivial trivial trivial trivial rfl (by omega) (sortsW _) (enters_of Tryd.func43 (by kernel_rfl) rfl) 44 #[.pointer (some ⟨w.heap.size, 0, none⟩)] trivial (enters_of Tryd.func44 (by kernel_rfl) rfl) _ _ hmax hbytes _ hseq
 change CallsIn _ _ Tryd.prog 38 _ _ _ at cS
 have hfK : Fence.wide.fn 39 := trivial
 have hfS : Fence.wide.fn 38 := trivial
 refine callsIn_of_wp Tryd.func33 rfl trivial ?_ rfl
 simp only [Tryd.ntmps33, List.size_toArray, List.length_cons, List.length_nil, Nat.reduceAdd, Nat.reduceSub, Array.replicate_succ, Array.replicate_zero, List.push_toArray, List.append_toArray, List.nil_append, List.cons_append]
 gi_wp2_with (first
  | (gi_at_call 39; refine (cK _ _).mono ?_; rintro e w' ⟨rfl, rfl⟩)
  | (gi_at_call 38; refine cS.mono ?_; rintro e w' ⟨v, ss, rfl, hS, hrow, hnil, hb⟩))
 go_ret
 have hl : ss.length = S.length := by rw [(hS.trans hperm).length_eq, List.length_map, hT.len]
 have hv : (ss.mergeSort fun x y => decide (x ≤ y)).map encStr = S.map fun p => Value.string p.1 := by
  rw [names_sorted hT (hS.trans hperm), List.map_map]
  rfl
 rw [hv, hl] at hrow
 exact ⟨v, rfl, ownsRow_base_a hrow (by simp), ((Below.refl _ w).alloc (Nat.le_refl _) _).trans (hb.mono (by simp))⟩
def kys (S : Tb) : List ByteArray := S.map (·.1)
theorem fst_len (Sx : Tb) : (kys Sx).length = Sx.length := List.length_map _
theorem kys_at {Sx : Tb} {k : Nat} (h : k < (kys Sx).length) (h' : k < Sx.length) : (kys Sx)[k] = Sx[k].1 := List.getElem_map _
theorem names_spec {St : Nat → Prop} {tb c : Nat} {L : List (ByteArray × ByteArray × Nat)} {S : Tb} {w : World} (hT : TabOk L c S) (hz : szT S) (hb : w.heap[tb]? = some (mapO Value.string Value.string L c)) :
 Calls Tryd.prog 33 #[.map (some tb)] w (Ret fun v w' => Ext w w' ∧ Hp w St [] [] [⟨Shape.str, 9, v, kys S⟩] [] w') := by
 refine (names_run hT hz hb).mono ?_
 rintro e w' ⟨v, rfl, hrow, hB⟩
 have hH : Hp w St [] [] [⟨Shape.str, 9, v, kys S⟩] [] w' := by
  refine ⟨⟨hB.os, hB.tape, hB.output, hB.size, fun k hk _ => hB.block k hk⟩, nofun, fun o ho => ?_, ?_, nofun⟩
  · obtain rfl := List.mem_singleton.1 ho
    refine ⟨⟨S.map fun p => Value.string p.1, ?_, ?_, fun i x hi => ?_⟩, fun b hb => ?_⟩
    · have h1 := hrow.1
      refine ⟨by show (S.map fun p => Value.string p.1).length = (kys S).length * 1; rw [fst_len]; simp, ?_⟩
      rcases hrow.2 with ⟨h2, h3⟩ | ⟨g, cap, cur, h2, h3, h4, h5⟩
      · exact .inl ⟨h2, by rw [fst_len]; exact h3⟩
      · exact .inr ⟨g, cap, cur, by rw [fst_len]; exact h2, Nat.zero_le _, h4, by rw [fst_len]; exact h5⟩
    · intro v hv
      obtain ⟨x, -, rfl⟩ := List.mem_map.1 hv
      rfl
    · have hm := List.mem_of_getElem? hi
      obtain ⟨p, hp, rfl⟩ := List.mem_map.1 hm
      show Shape.str.rep _ _ (((S.map fun p => Value.string p.1).drop (i * 1)).take 1) p.1
      change (kys S)[i]? = some p.1 at hi
      have hlt := (List.getElem?_eq_some_iff.1 hi).1
      have hxe := (List.getElem?_eq_some_iff.1 hi).2
      have hls := fst_len S
      rw [kys_at _ (by omega)] at hxe
      rw [Nat.mul_one, List.drop_eq_getElem_cons (by rw [List.length_map]; omega)]
      simp only [List.take_succ_cons, List.take_zero, List.getElem_map, hxe]
      exact ⟨rfl, Nat.le_trans (hz.2 p hp).1 (by decide)⟩
    · rcases hrow.2 with ⟨rfl, h3⟩ | ⟨g, cap, cur, rfl, h3, h4, h5⟩
      · simp [OwnS.blk] at hb
      · simp [OwnS.blk] at hb
        subst hb
        exact .inl h3
  · rcases hrow.2 with ⟨rfl, h3⟩ | ⟨g, cap, cur, rfl, h3, h4, h5⟩ <;> simp [idsOf, OwnS.blk]
 exact ⟨v, rfl, hH.done, hH⟩
end Go.Proofs.YtcodkepdolmmbaaDoor
