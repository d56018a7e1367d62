import Derived.Test.YtdnibpclkhenmaaGreatDoorSV5
import Derived.RangeFuncBox
import Derived.RangeFuncLeaves
import Derived.Shelf.Abstract
import Derived.WalkKit
import Derived.OwnWalkIn
import Derived.TacticsInMore
import Derived.LoopNIn
import Derived.LoopIn
import Derived.Maps.AppendAt
import Derived.Sort.MapsRangeIn
import Derived.RangeFuncKeeps
import Derived.RangeFuncNested
namespace Go.Proofs.YtdnibpclkhenmaaGreatDoor
open Go.BX
open Go.Proofs
open Go.RowKit Go.Shelf Go.BX
attribute [local go_sem] Oper.semAt_some
section
variable {F : Fence} {n : Nat} {P : Program} (w : World) {ops : Array Oper} {rest : List Oper} {o : Oper} {a : Act} {Q : Exit → Act → World → Prop}
theorem wpListIn_range_m (hg : o.guard = none) (m : Operand) (t : TypeId) (hop : o.op = Op.range t m) {k e : TypeId} (ht : P.underlying t = some (.map k e)) {b c : Nat} {es : Array MapEntry}
 (hm : a.eval m = .map (some b)) (hb : w.heap[b]? = some (.map es c)) (hK : wpListIn F n P ops Q rest (a.put o.dst (.pointer (some ⟨w.heap.size, 0, none⟩))) (w.alloc (.mapIter (some b) c #[] c))) :
 wpListIn F n P ops Q (o :: rest) a w := by
 refine wpListIn_plain hg fun K' hK' => ?_
 unfold Oper.wpIn
 refine ⟨?_, ?_⟩
 · simp [Oper.about, hop]
 · rw [Oper.semAt_plain F _ _ (by rw [hop]; intro c hc'; cases hc')]
   have hrun : (Instr.range t (.map (some b))).run P w = .ok (.pointer (some ⟨w.heap.size, 0, none⟩)) (w.alloc (.mapIter (some b) c #[] c)) := range_run ht hb
   simp [execOp, hop, hm, hrun, Result.andThen]
   exact hK' _ _ hK
theorem next_mrun {α β : Type} {mk : α → Value} {vk : β → Value} {L dn lf : List (α × β × Nat)} {b c r last : Nat} (ty : TypeId) {w : World} (hb : w.heap[b]? = some (mapO mk vk L c)) (hr : w.heap[r]? = some (iterO b c dn last)) (hp : (dn ++ lf).Perm L) (hM : MOk L c) (hsc : c ≤ last) :
 (lf = [] ∧ (Instr.next (.P r 0) false ty).run P w = .ok (.tuple #[.bool false]) w) ∨
 ∃ e lf' w', lf.Perm (e :: lf') ∧ (Instr.next (.P r 0) false ty).run P w = .ok (.tuple #[.bool true, mk e.1, vk e.2.1]) w' ∧ w'.heap[b]? = some (mapO mk vk L c) ∧ w'.heap[r]? = some (iterO b c (dn ++ [e]) c) ∧ w.grownBy w' (some r) ∧ e ∈ L := by
 have hn' : ((dn ++ lf).map (·.2.2)).Nodup := (hp.map _).nodup_iff.2 hM.borns
 have hlft : ∀ x : MapEntry, x ∈ (leftOf (L.map (ent mk vk)).toArray (dn.map (·.2.2)).toArray).toList ↔ ∃ e ∈ lf, ent mk vk e = x := by
  intro x
  unfold leftOf
  simp only [Array.toList_filter, List.mem_filter, List.mem_map, Bool.not_eq_true', cont_f]
  constructor
  · rintro ⟨⟨e, he, rfl⟩, hnot⟩
    refine ⟨e, ?_, rfl⟩
    rcases List.mem_append.1 (hp.mem_iff.2 he) with h | h
    · exact absurd ⟨e, h, rfl⟩ hnot
    · exact h
  · rintro ⟨e, he, rfl⟩
    refine ⟨⟨e, hp.mem_iff.1 (List.mem_append_right _ he), rfl⟩, ?_⟩
    rintro ⟨e', he', heq⟩
    rw [List.map_append, List.nodup_append] at hn'
    exact hn'.2.2 _ (List.mem_map.2 ⟨e', he', rfl⟩) _ (List.mem_map.2 ⟨e, he, rfl⟩) heq
 have hbr : b ≠ r := fun q => by
  subst q
  rw [hb] at hr
  cases hr
 rcases next_run (P := P) ty hr hb (fun x hx => by
  obtain ⟨e, he, rfl⟩ := List.mem_map.1 hx
  exact hM.old e he) hsc with ⟨h0, hrun⟩ | ⟨x, hx, w1, hw1, hrun⟩
 · refine .inl ⟨?_, hrun⟩
   cases lf with
   | nil => rfl
   | cons e l' =>
    have := (hlft (ent mk vk e)).2 ⟨e, List.mem_cons_self .., rfl⟩
    have hz : (leftOf (L.map (ent mk vk)).toArray (dn.map (·.2.2)).toArray).toList = [] := by rw [← List.length_eq_zero_iff, Array.length_toList]; exact h0
    rw [hz] at this
    cases this
 · obtain ⟨e, he, rfl⟩ := (hlft x).1 hx
   have heL : e ∈ L := hp.mem_iff.1 (List.mem_append_right _ he)
   obtain ⟨s, t, rfl⟩ := List.append_of_mem he
   have hseen : ((dn.map (·.2.2)).toArray.push (ent mk vk e).born) = ((dn ++ [e]).map (·.2.2)).toArray := by simp [ent]
   rw [hseen] at hrun
   have hh : w1.heap = w.heap := by rcases hw1 with rfl | rfl <;> rfl
   have hlt := (Array.getElem?_eq_some_iff.1 hr).1
   refine .inr ⟨e, s ++ t, _, List.perm_middle, hrun, ?_, ?_, ⟨?_, ?_, ?_, ?_, ?_⟩, heL⟩
   · show (w1.heap.setIfInBounds r _)[b]? = _
     rw [Array.getElem?_setIfInBounds_ne (fun q => hbr q.symm), hh]
     exact hb
   · show (w1.heap.setIfInBounds r _)[r]? = _
     rw [Array.getElem?_setIfInBounds_self_of_lt (by rw [hh]; exact hlt)]
     rfl
   · rcases hw1 with rfl | rfl <;> rfl
   · rcases hw1 with rfl | rfl <;> rfl
   · rcases hw1 with rfl | rfl <;> rfl
   · show w.heap.size ≤ (w1.heap.setIfInBounds r _).size
     rw [Array.size_setIfInBounds, hh]
     exact Nat.le_refl _
   · intro k _ hk
     show (w1.heap.setIfInBounds r _)[k]? = _
     rw [Array.getElem?_setIfInBounds_ne (fun q => hk (by rw [q])), hh]
theorem wpListIn_next_m {α β : Type} {mk : α → Value} {vk : β → Value} {L dn lf : List (α × β × Nat)} {b c r last : Nat} (hg : o.guard = none) (it : Operand) (hop : o.op = Op.next it false) (hit : a.eval it = .P r 0)
 (hb : w.heap[b]? = some (mapO mk vk L c)) (hr : w.heap[r]? = some (iterO b c dn last)) (hp : (dn ++ lf).Perm L) (hM : MOk L c) (hsc : c ≤ last)
 (hDone : lf = [] → wpListIn F n P ops Q rest (a.put o.dst (.tuple #[.bool false])) w)
 (hMore : ∀ e lf' w', lf.Perm (e :: lf') → w'.heap[b]? = some (mapO mk vk L c) → w'.heap[r]? = some (iterO b c (dn ++ [e]) c) → w.grownBy w' (some r) → (Instr.entry (.P r 0)).run P w' = .ok (.tuple #[mk e.1, vk e.2.1]) w' → wpListIn F n P ops Q rest (a.put o.dst (.tuple #[.bool true, mk e.1, vk e.2.1])) w') :
 wpListIn F n P ops Q (o :: rest) a w := by
 refine wpListIn_plain hg fun K' hK' => ?_
 unfold Oper.wpIn
 refine ⟨by simp [Oper.about, hop], ?_⟩
 rw [Oper.semAt_plain F _ _ (by rw [hop]; intro c hc'; cases hc')]
 rcases next_mrun (P := P) o.type hb hr hp hM hsc with ⟨h0, hrun⟩ | ⟨e, lf', w', hl, hrun, h1, h2, h3, h4⟩
 · simp [execOp, hop, hit, hrun, Result.andThen]
   exact hK' _ _ (hDone h0)
 · simp [execOp, hop, hit, hrun, Result.andThen]
   have hs : iterO b c (dn ++ [e]) c = .mapIter (some b) c (((dn.map (·.2.2)).toArray).push (ent mk vk e).born) c := by simp [iterO, ent]
   have hen := entry_run (P := P) (e := ent mk vk e) (by rw [h2, hs]) h1 (List.mem_map.2 ⟨e, h4, rfl⟩) (by
    show ((L.map (ent mk vk)).map (·.born)).Nodup
    rw [List.map_map]
    exact hM.borns)
   exact hK' _ _ (hMore e lf' w' hl h1 h2 h3 hen)
end
def leftM (r N : Nat) (w : World) : Nat := match w.heap[r]? with
 | some (.mapIter _ _ seen _) => N - seen.size
 | _ => 0
theorem leftM_eq {α β : Type} {r N b c last : Nat} {dn : List (α × β × Nat)} {w : World} (h : w.heap[r]? = some (iterO b c dn last)) : leftM r N w = N - dn.length := by
 unfold leftM
 rw [h]
 simp [iterO]
set_option maxRecDepth 100000 in
set_option maxHeartbeats 2000000 in
theorem keysC_in (F : Fence) (n : Nat) (h7 : F.fn 152) (hro : F.round = none) (hn : 1 ≤ n) (l Bm b c : Nat) (L : VL) (hM : MOk L c) (J Jx : List CID → World → Prop)
 (hY : ∀ pre x W, J pre W → pre.length < L.length → YieldAt F (n - 1) Tryz.prog l #[cidV x] W fun e W' =>
  (e = .returned (.bool true) ∧ J (pre ++ [x]) W' ∧ KeepsWalks W W') ∨ (e = .returned (.bool false) ∧ Jx (pre ++ [x]) W'))
 (W : World) (hJ : AbidesFrom W.heap.size J) (hm : W.cell? ⟨Bm, 0, none⟩ = some (.map (some b))) (hb : W.heap[b]? = some (mapO cidV veV L c)) (h0 : J [] W) :
 CallsIn F n Tryz.prog 152 #[.func (.yield l) #[] #[], .P Bm 0] W fun e W' => (∃ v, e = .returned v) ∧
  ((∃ ss : List CID, ss.Perm (L.map (·.1)) ∧ J ss W') ∨ (∃ pre : List CID, True ∧ Jx pre W')) := by
 refine callsIn_of_wp Tryz.func152 rfl h7 ?_ hro
 simp only [Tryz.ntmps152, List.size_toArray, List.length_cons, List.length_nil, Nat.reduceAdd, Nat.reduceSub, Array.replicate_succ, Array.replicate_zero, List.push_toArray, List.append_toArray, List.nil_append, List.cons_append]
 gi_wp2_with (first
  | (gi_at_range; refine wpListIn_range_m _ rfl _ 117 rfl Tryz.underlying117 rfl hb ?_)
  | gi_in)
 go_frame
 gi_loopw [3] (fun _ wr => ∃ (dn lf : VL) (last : Nat), wr.heap[b]? = some (mapO cidV veV L c) ∧ wr.heap[W.heap.size]? = some (iterO b c dn last) ∧ c ≤ last ∧ (dn ++ lf).Perm L ∧ J (dn.map (·.1)) wr)
  (fun _ wr => leftM W.heap.size L.length wr)
 case atStart =>
  have hbl := (Array.getElem?_eq_some_iff.1 hb).1
  exact ⟨[], L, c, (Below.heap_alloc W _ b hbl).trans hb, World.alloc_heap_new W _, Nat.le_refl _, List.Perm.refl _, hJ [] W _ none h0 (World.grownBy_alloc W _ none) (fun r e => by cases e)⟩
 case round =>
  obtain ⟨dn, lf, last, hbr, hrr, hsc, hp, hJs⟩ := hrel
  gi_wp2_with (first
   | (gi_at_next; refine wpListIn_next_m _ rfl _ rfl rfl hbr hrr hp hM hsc ?_ ?_)
   | gi_in)
  · intro hlf
    gi_wp2
    go_end0
    subst hlf
    rw [List.append_nil] at hp
    exact ⟨⟨_, rfl⟩, .inl ⟨dn.map (·.1), hp.map _, hJs⟩⟩
  · intro x v k lf' w2 hl h1 h2 hg2 hen
    have hJ2 : J (dn.map (·.1)) w2 := hJ _ wr w2 (some W.heap.size) hJs hg2 (fun r e => by cases e; exact ⟨Nat.le_refl _, _, hrr, rfl⟩)
    have hdl : dn.length < L.length := by
     have h3 := hp.length_eq
     have h4 := hl.length_eq
     simp only [List.length_append, List.length_cons] at h3 h4
     omega
    have hcx : cidV x = .agg #[.int .u64 x.version, .I x.index, .int .u64 x.epoch] := rfl
    simp only [hcx] at hen ⊢
    have hJ3 := hJ _ w2 (w2.alloc (.cells #[.int .u64 x.version, .I x.index, .int .u64 x.epoch] 82)) none hJ2 (World.grownBy_alloc w2 _ none) (fun r e => by cases e)
    have hb3 := (Below.heap_alloc w2 (.cells #[.int .u64 x.version, .I x.index, .int .u64 x.epoch] 82) b (Array.getElem?_eq_some_iff.1 h1).1).trans h1
    have hr3 := (Below.heap_alloc w2 (.cells #[.int .u64 x.version, .I x.index, .int .u64 x.epoch] 82) W.heap.size (Array.getElem?_eq_some_iff.1 h2).1).trans h2
    obtain ⟨fn, tmps, assign, body, hy, hR⟩ := hY _ x _ hJ3 (by simpa using hdl)
    simp only [hcx] at hy
    gi_wp2
    refine hR.mono ?_
    rintro e W3 (⟨rfl, hJ4, hk4⟩ | ⟨rfl, hJx4⟩)
    · gi_wp2
      have hb4 := hk4.same b _ hb3 rfl
      have hr4 := hk4.same W.heap.size _ hr3 rfl
      go_roundw
      case rel =>
       refine ⟨dn ++ [(x, v, k)], lf', c, hb4, hr4, Nat.le_refl _, ?_, by rw [List.map_append]; exact hJ4⟩
       rw [List.append_assoc]
       exact (hl.symm.append_left dn).trans hp
      case measure =>
       rw [leftM_eq hr4, leftM_eq hrr, List.length_append]
       simp only [List.length_cons, List.length_nil]
       omega
    · gi_wp2
      refine bodyPost_ret (results_none rfl _ _ _) rfl ?_
      exact ⟨⟨_, rfl⟩, .inr ⟨_, trivial, hJx4⟩⟩
theorem keysC_stops (F : Fence) (n : Nat) (h7 : F.fn 152) (hro : F.round = none) (hn : 1 ≤ n) (Bm b c : Nat) (L : VL) (hM : MOk L c) (w : World) (hBm : Bm < w.heap.size) (hm : w.cell? ⟨Bm, 0, none⟩ = some (.map (some b))) (hb : w.heap[b]? = some (mapO cidV veV L c)) :
 SeqStopsK F n Tryz.prog 152 #[.P Bm 0] (fun x : CID => #[.agg #[.int .u64 x.version, .I x.index, .int .u64 x.epoch]]) KeepsWalks (fun ss => ss.Perm (L.map (·.1))) (fun _ => True) L.length w := fun l J Jx W hW hJ _ hY h0 =>
 keysC_in F n h7 hro hn l Bm b c L hM J Jx hY W hJ ((hW.cell (p := ⟨Bm, 0, none⟩) hBm).trans hm) ((hW.block b (Array.getElem?_eq_some_iff.1 hb).1).trans hb) h0
end Go.Proofs.YtdnibpclkhenmaaGreatDoor

namespace Go.Proofs.YtdnibpclkhenmaaGreatDoor
open Go.BX
open Go.Proofs
open Go.RowKit Go.Shelf Go.BX
attribute [local go_sem] Oper.semAt_some
def cidC (x : CID) : List Value := [.int .u64 x.version, .I x.index, .int .u64 x.epoch]
theorem info_cid : (Tryz.prog.info? 82).map (fun i => (i.zero, i.size, i.bytes)) = some (some (.agg #[.int .u64 0, .I 0, .int .u64 0]), 3, 24) := by kernel_rfl
theorem cell_three_new (w : World) (x : CID) (t : TypeId) : ∀ j u, (cidC x)[j]? = some u → (w.alloc (.cells #[.int .u64 x.version, .I x.index, .int .u64 x.epoch] t)).cell? ((⟨w.heap.size, 0, none⟩ : Addr).add j) = some u := by
 intro j u hj
 have h : (w.alloc (.cells #[.int .u64 x.version, .I x.index, .int .u64 x.epoch] t)).heap[w.heap.size]? = some (.cells #[.int .u64 x.version, .I x.index, .int .u64 x.epoch] t (0, 0)) := World.alloc_heap_new w _
 have h2 := Cells.of_block h j u (by simpa [cidC] using hj)
 have e : ((⟨w.heap.size, 0, none⟩ : Addr).add j) = ⟨w.heap.size, 0 + j, none⟩ := by
  rcases Nat.eq_zero_or_pos j with rfl | h0
  · rfl
  · simp [Addr.add]
    omega
 rw [e]
 exact h2
theorem flat_app (pre : List CID) (x : CID) : (pre ++ [x]).flatMap cidC = pre.flatMap cidC ++ cidC x := by simp
set_option maxRecDepth 100000 in
set_option maxHeartbeats 2000000 in
theorem appendSeqC_in (F : Fence) (n : Nat) (h3 : F.fn 192) (h5 : F.fn 152) (hro : F.round = none) (hn : 3 ≤ n) (Bm N : Nat) (S : List CID → Prop) (hS : ∀ ss, S ss → ss.length ≤ N) (hN : N ≤ 1048576) (w : World)
 (hseq : ∀ w', Below w.heap.size w w' → SeqStopsK F (n - 1) Tryz.prog 152 #[.P Bm 0] (fun x : CID => #[.agg #[.int .u64 x.version, .I x.index, .int .u64 x.epoch]]) KeepsWalks S (fun _ => True) N w') :
 CallsIn F n Tryz.prog 192 #[.slice none 0 0, .func (.func 152) #[] #[.P Bm 0]] w fun e W' => ∃ v ss, e = .returned v ∧ S ss ∧ W'.ownsRow w.heap.size 82 3 v ss.length (ss.flatMap cidC) ∧ Below w.heap.size w W' := by
 have h1 : 1 ≤ n := by omega
 obtain ⟨i0, hi, hz0, hz1, hz2⟩ := info_parts info_cid
 refine callsIn_of_wp_marks Tryz.func192 rfl h3 ?_ hro
 simp only [Tryz.ntmps192, List.size_toArray, List.length_cons, List.length_nil, Nat.reduceAdd, Nat.reduceSub, Array.replicate_succ, Array.replicate_zero, List.push_toArray, List.append_toArray, List.nil_append, List.cons_append]
 gi_wp2
 have bO := Boxed.new w 110 (.slice none 0 0)
 have hB0 : Below w.heap.size w (w.alloc (.cells #[.slice none 0 0] 110)) := (Below.refl _ w).alloc (Nat.le_refl _) _
 refine wpIn_rangeFunc_ownH hro h1 (gf := 152) (lb := #[.P Bm 0]) rfl h5 (enters_of Tryz.func152 (by kernel_rfl) rfl)
  (hseq _ hB0) (fun h k => KeepsWalks.trans h k) (fun W l o o' _ hl _ hw => KeepsWalks.putObj o' hl hw) (Below.refl _ _) (fun _ => rfl)
  (fun (pre : List CID) W => (∃ v, Boxed W w.heap.size 110 v ∧ W.ownsRow w.heap.size 82 3 v pre.length (pre.flatMap cidC) ∧ True) ∧ Below w.heap.size w W)
  (fun _ _ _ => False)
  (OwnFrom.and (Own.from (holdsRow_own w.heap.size w.heap.size 110 82 3 (fun pre : List CID => pre.length) (fun pre : List CID => pre.flatMap cidC) (fun _ _ => True)) _) (ownFrom_below (Nat.le_refl _) (by simp)))
  (fun _ _ _ _ _ hs _ _ => hs)
  ⟨⟨_, bO, World.ownsRow_nil _ _ _ _, trivial⟩, hB0⟩
  (fun x a' W => ∃ p, a' = { tmps := #[.slice none 0 0, .func (.func 152) #[] #[.P Bm 0], .pointer (some ⟨w.heap.size, 0, none⟩), undef, .slice none 0 0, .P p 0, .func (.func 152) #[] #[.P Bm 0], .agg #[.int .u64 x.version, .I x.index, .int .u64 x.epoch], undef, undef, undef, undef, undef], defers := [] } ∧ W.heap[p]? = some (.cells #[.int .u64 x.version, .I x.index, .int .u64 x.epoch] 82 (0, 0)))
  ?hax ?assign ?body ?done ?stop
 case hax =>
  rintro x a' s A B row ⟨p, h, hp⟩ hg hr
  refine ⟨p, h, (hg.block p (Array.getElem?_eq_some_iff.1 hp).1 (fun e => ?_)).trans hp⟩
  obtain ⟨_, o, ho, hc⟩ := hr p e.symm
  rw [hp] at ho
  cases ho
  cases hc
 case assign =>
  intro l pre x W K hI hK
  obtain ⟨⟨v, hv, hrow, -⟩, hB⟩ := hI
  gi_wp2
  exact hK _ _ (KeepsFrom.of_grownBy (World.grownBy_alloc W _ none) (fun j e => by cases e)) (KeepsWalks.alloc W _) ⟨⟨v, hv.alloc _, hrow.alloc _, trivial⟩, hB.alloc hB.size _⟩ ⟨_, rfl, World.alloc_heap_new W _⟩
 case body =>
  rintro l pre x a' W hl hloop ⟨⟨v, hv, hrow, -⟩, hB⟩ ⟨p, rfl, hp⟩ hlt
  have hc := hv.cell
  have hp0 : W.cell? ⟨p, 0, none⟩ = some (.int .u64 x.version) := by simp [World.cell?, hp]
  have hp1 : W.cell? ⟨p, 1, none⟩ = some (.I x.index) := by simp [World.cell?, hp]
  have hp2 : W.cell? ⟨p, 2, none⟩ = some (.int .u64 x.epoch) := by simp [World.cell?, hp]
  gi_wp2_with (gi_at_builtin; refine wpListIn_append_own _ rfl _ _ 110 rfl w.heap.size 82 i0 (.agg #[.int .u64 0, .I 0, .int .u64 0]) 3 24 Tryz.underlying110 hi hz0 hz1 hz2 rfl (by decide) _ _ _ rfl (hrow.alloc _) ⟨W.heap.size, 0, none⟩ 1 1 (cidC x) rfl rfl (cell_three_new _ _ _) (by simp [cidC, Value.oneCell']) (by unfold maxLen; omega) (by omega) (by have := hB.size; simp; omega) ?_; intro v' w1 hown' hgrow _; obtain ⟨g', cap', rfl⟩ := ownsRow_succ hown'; obtain ⟨hv1, hv2, hr2, hk2, hb2⟩ := hv.appended (by decide) hrow hB.size (Nat.le_refl _) hown' hgrow; have hc1 := hv1.cell; have hf1 := hv1.frozen)
  exact ⟨hk2.from _, ⟨hk2.size, fun k o hk ho => hk2.same k o hk (Obj.not_cells_of_walk ho)⟩, ⟨_, hv2, by rw [flat_app, List.length_append]; exact hr2, trivial⟩, hB.trans hb2⟩
 case done =>
  rintro D ys W hD hS' ⟨⟨v, hv, hrow, -⟩, hB⟩ hK
  have hc := hv.cell
  gi_wp2
  refine ⟨by simp, .inl ⟨_, _, rfl, run_takeDeferred hK, ?_⟩⟩
  exact ⟨_, results_tmp rfl _ _ _, v, ys, rfl, hS', ownsRow_putObj hrow _ hK rfl, hB.trans (belowK_b (w := w) (Nat.le_refl _) W D _ _ (by simp at hD; omega) hK rfl rfl)⟩
 case stop =>
  rintro D c pre W _ _ h _
  exact h.elim
end Go.Proofs.YtdnibpclkhenmaaGreatDoor
