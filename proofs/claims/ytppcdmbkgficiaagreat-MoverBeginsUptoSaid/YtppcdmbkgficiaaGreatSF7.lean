import Derived.Test.YtppcdmbkgficiaaGreatSBxB
import Derived.Test.YtppcdmbkgficiaaGreatSF5
namespace Go.Proofs.YtppcdmbkgficiaaGreat
open Go.BX
def nodesTo (n : Nat) : List Int := (List.range n).map fun i : Nat => (i : Int) + 1
def objOf (xs : List (BitVec 8)) (n : Nat) : ObjD := ⟨⟨#[97]⟩, 7, (xs.length : Int), crcF xs, 0, 2, nodesTo n⟩
def hdAt (xs : List (BitVec 8)) (k n i : Nat) : Hdr := ⟨⟨7, (i : Int), 2⟩, (k : Int), (n : Int), (xs.length : Int), crcF (rowAt (enc xs k n) i)⟩
def chkAt (xs : List (BitVec 8)) (k n i : Nat) : Chk := ⟨hdAt xs k n i, rowAt (enc xs k n) i, false⟩
def chksOf (xs : List (BitVec 8)) (k n : Nat) : List Chk := (List.range n).map (chkAt xs k n)
theorem nodesTo_len (n : Nat) : (nodesTo n).length = n := by simp [nodesTo]
theorem nodesTo_snoc (n : Nat) : nodesTo n ++ [(n : Int) + 1] = nodesTo (n + 1) := by
 unfold nodesTo
 rw [List.range_succ, List.map_append]
 rfl
theorem chksOf_len (xs : List (BitVec 8)) (k n : Nat) : (chksOf xs k n).length = n := by simp [chksOf]
theorem chksOf_get {xs : List (BitVec 8)} {k n i : Nat} (h : i < n) : (chksOf xs k n)[i]? = some (chkAt xs k n i) := by
 unfold chksOf
 rw [List.getElem?_map, List.getElem?_range h]
 rfl
theorem headsOf_at {xs : List (BitVec 8)} {k n i : Nat} (hkn : k ≤ n) (h : i < n) (h2 : i < (headsOf ⟨7, 0, 2⟩ xs.length k (enc xs k n)).length) : (headsOf ⟨7, 0, 2⟩ xs.length k (enc xs k n))[i] = hdAt xs k n i := by
 have a := headsOf_get (id := ⟨7, 0, 2⟩) (size := xs.length) (k := k) (cs := enc xs k n) (i := i) (by rw [enc_len hkn]; exact h)
 rw [List.getElem?_eq_getElem h2] at a
 rw [Option.some.inj a]
 unfold hdAt
 rw [rowAt_eq (by rw [enc_len hkn]; exact h)]
 simp only [enc_len hkn]
theorem chk_snoc {xs : List (BitVec 8)} {k n i : Nat} {c : Chk} (h : i < n) (hc : c = chkAt xs k n i) : (chksOf xs k n).take i ++ [c] = (chksOf xs k n).take (i + 1) := by
 rw [hc]
 exact take_snoc (chksOf_get h)
theorem good_own {r : Rd} {frm : Int} {hd : Hdr} {ok : Bool} {dt : List (BitVec 8)} {xs : List (BitVec 8)} {k n : Nat} (at_ : Nat) (h1 : hd.id.index = (at_ : Int)) (h2 : dt = rowAt (enc xs k n) at_) : ∀ i : Nat, hitR r frm hd i = true → goodR r i hd dt ok → dt = rowAt (enc xs k n) i := fun i hi _ => by
 unfold hitR at hi
 simp only [Bool.and_eq_true, decide_eq_true_eq] at hi
 have := congrArg CID.index hi.1
 rw [h1] at this
 obtain rfl : at_ = i := Int.ofNat.inj this
 exact h2
theorem find_lt {r : Rd} {frm : Int} {hd : Hdr} {i : Nat} (h : (List.range r.object.nodes.length).find? (hitR r frm hd) = some i) : i < r.object.nodes.length ∧ hitR r frm hd i = true := by
 have a := List.find?_some h
 exact ⟨List.mem_range.1 (List.mem_of_find?_eq_some h), a⟩
theorem RdOf.got {xs : List (BitVec 8)} {k n : Nat} {r : Rd} (h : RdOf xs k n r) {frm : Int} {hd : Hdr} {dt : List (BitVec 8)} {ok : Bool} (hg : ∀ i : Nat, hitR r frm hd i = true → goodR r i hd dt ok → dt = rowAt (enc xs k n) i) : RdOf xs k n (gotR r frm hd dt ok) := by
 unfold gotR
 split
 · exact h
 · split
   · exact h
   · rename_i i hf
     obtain ⟨hi, hh⟩ := find_lt hf
     split
     · rename_i ho
       unfold stepR
       split
       · rename_i hgd
         exact { h.put ho (by rw [← h.nodes]; exact hi) (hg i hh hgd) with }
       · exact { h with }
     · exact h
theorem RdOf.begin {xs : List (BitVec 8)} {k n : Nat} {limit : Int} (hk : 1 ≤ k) (hkn : k ≤ n) (hn : n ≤ 255) (hs : xs.length ≤ 65536) : RdOf xs k n (beginR (objOf xs n) (k : Int) (n : Int) limit) where
 kk := rfl
 nn := rfl
 size := rfl
 sum := rfl
 nodes := nodesTo_len n
 of := ⟨List.nodup_nil, (fun p hp => nomatch hp), (fun p hp => nomatch hp)⟩
 hk := hk
 hkn := hkn
 hn := hn
 hs := hs
theorem got_bad_le {r : Rd} {frm : Int} {hd : Hdr} {dt : List (BitVec 8)} {ok : Bool} : (gotR r frm hd dt ok).bad.length ≤ r.bad.length + 1 := by
 unfold gotR
 split
 · omega
 · split
   · omega
   · split
     · unfold stepR
       split
       · show r.bad.length ≤ _; omega
       · show (r.bad ++ [_]).length ≤ _
         rw [List.length_append]
         exact Nat.le_refl _
     · omega
end Go.Proofs.YtppcdmbkgficiaaGreat
