import Derived.Shelf.Sort.Plain
import Derived.Sort.OwnSortedInts
import Derived.Test.YtkjkmogipidkiaaGreatSI1
import Derived.Test.YtkjkmogipidkiaaGreatSI2
import Derived.Test.YtkjkmogipidkiaaGreatSBxA
import Derived.Test.YtkjkmogipidkiaaGreatSA0
namespace Go.Proofs.YtkjkmogipidkiaaGreat
open Go.Proofs
open Go.RowKit Go.Shelf Go.BX Go.Sort
attribute [local go_sem] Oper.semAt_some
def sortedI (xs : List Int) : List Int := xs.mergeSort fun x y => decide (x ≤ y)
theorem sortedI_mem {xs : List Int} {x : Int} : x ∈ sortedI xs ↔ x ∈ xs := (List.mergeSort_perm xs _).mem_iff
theorem sortedI_len (xs : List Int) : (sortedI xs).length = xs.length := (List.mergeSort_perm xs _).length_eq
set_option maxRecDepth 100000 in
set_option maxHeartbeats 2000000 in
theorem collect_in (Bs : Nat) (sv : Value) (zs : List Int) (hlen : zs.length ≤ maxLen) (hbytes : zs.length * 8 ≤ 140737488351232) (w : World) (hBs : Bs < w.heap.size) (hcs : w.cell? ⟨Bs, 0, none⟩ = some sv) (hI : ItInts w.heap.size w sv zs) :
 Calls Tryz.prog 135 #[.func (.func 137) #[] #[.pointer (some ⟨Bs, 0, none⟩)]] w fun e W' => ∃ v, e = .returned v ∧ W'.ownsRow w.heap.size 3 1 v zs.length (zs.map (Value.int .i64)) ∧ Below w.heap.size w W' := by
 refine (callsIn_wide (n := 6)).1 ?_
 refine callsIn_of_wp Tryz.func135 rfl trivial ?_ rfl
 simp only [Tryz.ntmps135, List.size_toArray, List.length_cons, List.length_nil, Nat.reduceAdd, Nat.reduceSub, Array.replicate_succ, Array.replicate_zero, List.push_toArray, List.append_toArray, List.nil_append, List.cons_append]
 gi_wp2_with (refine ⟨trivial, ?_⟩; gi_at_call 149; refine (appendSeq_in Fence.wide 5 trivial trivial rfl (by decide) Bs sv zs hlen hbytes w hBs hcs hI).mono ?_; rintro e W ⟨v, rfl, hrow, hb⟩)
 go_ret
 exact ⟨_, rfl, hrow, hb⟩
set_option maxRecDepth 100000 in
set_option maxHeartbeats 2000000 in
theorem sorted_in (Bs : Nat) (sv : Value) (zs : List Int) (h0 : 0 < zs.length) (hlen : zs.length ≤ maxLen) (hbytes : zs.length * 8 ≤ 140737488351232) (w : World) (hBs : Bs < w.heap.size) (hcs : w.cell? ⟨Bs, 0, none⟩ = some sv) (hI : ItInts w.heap.size w sv zs) :
 Calls Tryz.prog 117 #[.func (.func 137) #[] #[.pointer (some ⟨Bs, 0, none⟩)]] w fun e W' => ∃ v, e = .returned v ∧ W'.ownsRow w.heap.size 3 1 v zs.length ((sortedI zs).map (Value.int .i64)) ∧ Below w.heap.size w W' := by
 refine (callsIn_wide (n := 8)).1 ?_
 refine callsIn_of_wp Tryz.func117 rfl trivial ?_ rfl
 simp only [Tryz.ntmps117, List.size_toArray, List.length_cons, List.length_nil, Nat.reduceAdd, Nat.reduceSub, Array.replicate_succ, Array.replicate_zero, List.push_toArray, List.append_toArray, List.nil_append, List.cons_append]
 gi_wp2_with (refine ⟨trivial, ?_⟩; gi_at_call 135; refine ((callsIn_wide (n := 7)).2 (collect_in Bs sv zs hlen hbytes w hBs hcs hI)).mono ?_; rintro e W ⟨v, rfl, hrow, hb⟩)
 rcases hrow.2 with ⟨rfl, hz⟩ | ⟨gb, cap, cur, rfl, hbase, hgb, a, b, c, d⟩
 · omega
 · have hH : Holds (Value.int .i64) W gb 0 zs.toArray := holds_of_blockI hgb (by simpa using d)
   have hgl : gb < W.heap.size := (Array.getElem?_eq_some_iff.1 hgb).1
   have cS := (callsIn_wide (n := 7)).2 (Any.slices_Sort_int sortI gb 0 cap zs W hH hgl (by unfold maxLen at hlen; omega))
   gi_wp2_with (refine ⟨trivial, ?_⟩; gi_at_call 136; refine cS.mono ?_; rintro e w' ⟨rfl, nn, os, rfl⟩)
   go_ret
   exact ⟨_, rfl, ownsRow_sortedI (sortedI_len zs) hbase hgb a b c, hb.grown (grownBy_sortedI _) hb.size (fun j hj => by cases hj; exact hbase)⟩
theorem ints_it {S : Nat → Prop} {w : World} {a : Option Addr} {c : Nat} {xs : List Int} (h0 : 0 < xs.length) (h : (Shape.slice (Shape.int .i64)).rep S w [.slice a xs.length c] xs) : ItInts w.heap.size w (.slice a xs.length c) xs := by
 obtain ⟨-, -, -, hE⟩ := Shape.elems_of h
 obtain ⟨b, o, es, ha, -, _, _⟩ := hE 0 xs[0] (List.getElem?_eq_getElem h0)
 subst ha
 have hcell : ∀ j, j < xs.length → w.cell? ⟨b, o + j, none⟩ = some (.int .i64 (xs[j]?.getD 0)) := fun j hj => by
  obtain ⟨b', o', es', ha', -, hc, hr⟩ := hE j xs[j] (List.getElem?_eq_getElem hj)
  injection ha' with ha'
  injection ha' with d h2
  subst d
  subst h2
  obtain ⟨rfl, -⟩ := hr
  have := hc 0 _ rfl
  simpa [Shape.int, List.getElem?_eq_getElem hj] using this
 refine ⟨b, o, c, rfl, ?_, hcell⟩
 have d := hcell 0 h0
 rcases Nat.lt_or_ge b w.heap.size with h | h
 · exact h
 · simp [World.cell?, Array.getElem?_eq_none h] at d
theorem sortedv_spec {S : Nat → Prop} {w : World} {bx : Nat} {a : Option Addr} {c : Nat} {xs : List Int} (hb : (Fc bx 0 [.slice a xs.length c]).p (fun _ => True) w) (hx : (Shape.slice (Shape.int .i64)).rep (fun _ => True) w [.slice a xs.length c] xs) (h0 : 0 < xs.length) (hl : xs.length ≤ 4194304) :
 Calls Tryz.prog 117 #[.func (.func 137) #[] #[.pointer (some ⟨bx, 0, none⟩)]] w (Ret fun v w' => Ext w w' ∧ Hp w S [] [] [⟨Shape.int .i64, 3, v, sortedI xs⟩] [] w') := by
 have hcell := hb.2.2 0 _ rfl
 have hbx : bx < w.heap.size := by
  rcases Nat.lt_or_ge bx w.heap.size with h | h
  · exact h
  · simp [World.cell?, Array.getElem?_eq_none h] at hcell
 have hr : ∀ x ∈ xs, -9223372036854775808 ≤ x ∧ x ≤ 9223372036854775807 := fun x m => by
  obtain ⟨-, -, -, hE⟩ := Shape.elems_of hx
  obtain ⟨i, hi⟩ := List.mem_iff_getElem?.1 m
  obtain ⟨b, o, es, -, -, -, n⟩ := hE i x hi
  exact Shape.i64_bd n
 refine (sorted_in bx (.slice a xs.length c) xs h0 (by unfold maxLen; omega) (by omega) w hbx (by simpa using hcell) (ints_it h0 hx)).mono ?_
 rintro e w' ⟨v, rfl, hrow, hB⟩
 have hH : Hp w S [] [] [⟨Shape.int .i64, 3, v, sortedI xs⟩] [] w' := by
  refine ⟨⟨hB.os, hB.tape, hB.output, hB.size, fun k hk _ => hB.block k hk⟩, nofun, fun o ho => ?_, ?_, nofun⟩
  · obtain rfl := List.mem_singleton.1 ho
    refine ⟨⟨(sortedI xs).map (Value.int .i64), ?_, ?_, fun i x hi => ?_⟩, fun b hb => ?_⟩
    · have q := hrow.1
      refine ⟨by show ((sortedI xs).map (Value.int .i64)).length = (sortedI xs).length * 1; simp, ?_⟩
      rcases hrow.2 with ⟨f, d⟩ | ⟨g, cap, cur, f, d, j, l⟩
      · exact .inl ⟨f, by rw [sortedI_len]; exact d⟩
      · exact .inr ⟨g, cap, cur, by rw [sortedI_len]; exact f, Nat.zero_le _, j, by rw [sortedI_len]; exact l⟩
    · intro v hv
      obtain ⟨x, -, rfl⟩ := List.mem_map.1 hv
      rfl
    · have hm := sortedI_mem.1 (List.mem_of_getElem? hi)
      show (Shape.int .i64).rep _ _ ((((sortedI xs).map (Value.int .i64)).drop (i * 1)).take 1) x
      have hlt := (List.getElem?_eq_some_iff.1 hi).1
      have hxe := (List.getElem?_eq_some_iff.1 hi).2
      rw [Nat.mul_one, List.drop_eq_getElem_cons (by simpa using hlt)]
      simp only [List.take_succ_cons, List.take_zero, List.getElem_map, hxe]
      exact i64a (hr x hm).1 (hr x hm).2
    · rcases hrow.2 with ⟨rfl, d⟩ | ⟨g, cap, cur, rfl, d, j, l⟩
      · simp [OwnS.blk] at hb
      · simp [OwnS.blk] at hb
        subst hb
        exact .inl d
  · rcases hrow.2 with ⟨rfl, d⟩ | ⟨g, cap, cur, rfl, d, j, l⟩ <;> simp [idsOf, OwnS.blk]
 exact ⟨v, rfl, hH.done, hH⟩
end Go.Proofs.YtkjkmogipidkiaaGreat
