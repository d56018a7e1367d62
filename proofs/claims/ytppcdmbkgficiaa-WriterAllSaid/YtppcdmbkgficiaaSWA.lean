import Derived.Test.YtppcdmbkgficiaaF2
import Derived.Test.YtppcdmbkgficiaaSW7
import Derived.Test.YtppcdmbkgficiaaBxShift
namespace Go.Proofs.Ytppcdmbkgficiaa
open Go.BX

/-! sums tell a burst -/
theorem bit1_zero {c : BitVec 32} (h : bit1 c = 0#32) : c = 0#32 := by
 rw [bit1_eq] at h
 have h31 := congrArg (fun x : BitVec 32 => x.getLsbD 31) h
 have hl : c.getLsbD 0 = false := by
  cases hc : c.getLsbD 0
  · rfl
  · rw [hc] at h31
    simp at h31
 rw [hl] at h
 simp only [Bool.false_eq_true, if_false, BitVec.xor_zero] at h
 apply BitVec.eq_of_getLsbD_eq
 intro i hi
 rw [BitVec.getLsbD_zero]
 cases i with
 | zero => exact hl
 | succ j =>
  have := congrArg (fun x : BitVec 32 => x.getLsbD j) h
  simpa [BitVec.getLsbD_ushiftRight, Nat.add_comm] using this
theorem bits_nil : ∀ n : Nat, bits n 0#32 = 0#32
 | 0 => rfl
 | n + 1 => by
  show bit1 (bits n 0#32) = _
  rw [bits_nil n]; decide
theorem bits_zero : ∀ (n : Nat) {c : BitVec 32}, bits n c = 0#32 → c = 0#32
 | 0, _, h => h
 | n + 1, _, h => bits_zero n (bit1_zero h)
theorem bits_in : ∀ (n : Nat) (c : BitVec 32), bits (n + 1) c = bits n (bit1 c)
 | 0, _ => rfl
 | n + 1, c => by
  show bit1 (bits (n + 1) c) = bit1 (bits n (bit1 c))
  rw [bits_in n]
/-! bit by bit -/
def stepB (c : BitVec 32) (b : Bool) : BitVec 32 := bit1 (c ^^^ (if b then 1#32 else 0#32))
theorem bits_stream : ∀ (n : Nat) (c x : BitVec 32), n ≤ 32 → (∀ i, n ≤ i → x.getLsbD i = false) → bits n (c ^^^ x) = ((List.range n).map fun i => x.getLsbD i).foldl stepB c
 | 0, c, x, _, hx => by
  have : x = 0#32 := by
   apply BitVec.eq_of_getLsbD_eq
   intro i hi
   rw [hx i (Nat.zero_le _), BitVec.getLsbD_zero]
  rw [this, BitVec.xor_zero]; rfl
 | n + 1, c, x, hn, hx => by
  rw [bits_in]
  have e : bit1 (c ^^^ x) = stepB c (x.getLsbD 0) ^^^ (x >>> 1) := by
   unfold stepB
   rw [bit1_xor, bit1_xor, BitVec.xor_assoc]
   congr 1
   rw [bit1_eq, bit1_eq]
   cases hb : x.getLsbD 0
   · simp
   · simp only [if_true]
     rw [show (1#32).getLsbD 0 = true from rfl]
     simp only [if_true]
     rw [show (1#32) >>> 1 = 0#32 from rfl, BitVec.zero_xor, BitVec.xor_comm]
  rw [e, bits_stream n _ _ (by omega) (fun i hi => by rw [BitVec.getLsbD_ushiftRight]; exact hx _ (by omega))]
  rw [List.range_succ_eq_map, List.map_cons, List.foldl_cons, List.map_map]
  congr 1
  apply List.map_congr_left
  intro i _
  simp [BitVec.getLsbD_ushiftRight, Nat.add_comm]
def bitsOf (xs : List (BitVec 8)) : List Bool := xs.flatMap fun x => (List.range 8).map fun i => x.getLsbD i
theorem crcStep_bits (c : BitVec 32) (x : BitVec 8) : crcStep c x = ((List.range 8).map fun i => x.getLsbD i).foldl stepB c := by
 unfold crcStep
 rw [bits_stream 8 c _ (by decide) (fun i hi => by rw [BitVec.getLsbD_setWidth, BitVec.getLsbD_of_ge x i hi, Bool.and_false])]
 congr 1
theorem fold_bits : ∀ (xs : List (BitVec 8)) (c : BitVec 32), xs.foldl crcStep c = (bitsOf xs).foldl stepB c
 | [], _ => rfl
 | x :: xs, c => by
  show xs.foldl crcStep (crcStep c x) = ((((List.range 8).map fun i => x.getLsbD i)) ++ bitsOf xs).foldl stepB c
  rw [List.foldl_append, ← crcStep_bits, fold_bits xs]
theorem bitsOf_len : ∀ xs : List (BitVec 8), (bitsOf xs).length = 8 * xs.length
 | [] => rfl
 | x :: xs => by
  show ((((List.range 8).map fun i => x.getLsbD i)) ++ bitsOf xs).length = _
  rw [List.length_append, bitsOf_len xs, List.length_map, List.length_range, List.length_cons]; omega
def bitD (xs : List (BitVec 8)) (q : Nat) : Bool := (xs.getD (q / 8) 0#8).getLsbD (q % 8)
theorem bitsOf_at : ∀ (xs : List (BitVec 8)) (q : Nat), q < 8 * xs.length → (bitsOf xs)[q]? = some (bitD xs q)
 | [], _, h => absurd h (by simp)
 | x :: xs, q, h => by
  show ((((List.range 8).map fun i => x.getLsbD i)) ++ bitsOf xs)[q]? = _
  by_cases h8 : q < 8
  · rw [List.getElem?_append_left (by simpa using h8), List.getElem?_map, List.getElem?_range h8]
    unfold bitD
    rw [show q / 8 = 0 by omega, show q % 8 = q by omega]; rfl
  · rw [List.getElem?_append_right (by simp; omega), List.length_map, List.length_range, bitsOf_at xs (q - 8) (by rw [List.length_cons] at h; omega)]
    unfold bitD
    rw [show q / 8 = (q - 8) / 8 + 1 by omega, show q % 8 = (q - 8) % 8 by omega]; rfl
theorem fold_falses : ∀ (n : Nat) (c : BitVec 32), (List.replicate n false).foldl stepB c = bits n c
 | 0, _ => rfl
 | n + 1, c => by
  rw [List.replicate_succ, List.foldl_cons, fold_falses n, bits_in]
  congr 1
  unfold stepB
  simp
/-- a burst of up to 32 bits leaves a trace -/
theorem burst {δ : List (BitVec 8)} {at_ n : Nat} {m : BitVec 32} (hn : n ≤ 32) (hat : at_ + n ≤ 8 * δ.length) (hb : ∀ q, q < 8 * δ.length → bitD δ q = (decide (at_ ≤ q ∧ q < at_ + n) && m.getLsbD (q - at_)))
 (h : δ.foldl crcStep 0#32 = 0#32) : ∀ i < n, m.getLsbD i = false := by
 obtain ⟨x, hx⟩ : ∃ x : BitVec 32, ∀ i, x.getLsbD i = (decide (i < n) && m.getLsbD i) := by
  refine ⟨(m.setWidth n).setWidth 32, fun i => ?_⟩
  rw [BitVec.getLsbD_setWidth, BitVec.getLsbD_setWidth]
  by_cases hi : i < n
  · rw [decide_eq_true (show i < 32 by omega), Bool.true_and]
  · rw [decide_eq_false hi, Bool.false_and, Bool.and_false]
 have e : bitsOf δ = List.replicate at_ false ++ ((List.range n).map fun i => x.getLsbD i) ++ List.replicate (8 * δ.length - at_ - n) false := by
  apply List.ext_getElem?
  intro q
  by_cases hq : q < 8 * δ.length
  · rw [bitsOf_at δ q hq, hb q hq]
    by_cases h1 : q < at_
    · have hd : decide (at_ ≤ q ∧ q < at_ + n) = false := decide_eq_false (by omega)
      rw [List.append_assoc, List.getElem?_append_left (by simpa using h1), List.getElem?_replicate, if_pos h1, hd, Bool.false_and]
    · by_cases h2 : q < at_ + n
      · rw [List.getElem?_append_left (by simp; omega), List.getElem?_append_right (by simp; omega), List.length_replicate, List.getElem?_map, List.getElem?_range (by omega)]
        have hd : decide (at_ ≤ q ∧ q < at_ + n) = true := decide_eq_true (by omega)
        rw [hd, Bool.true_and]
        simp only [Option.map_some, hx, decide_eq_true (show q - at_ < n by omega), Bool.true_and]
      · have hd : decide (at_ ≤ q ∧ q < at_ + n) = false := decide_eq_false (by omega)
        rw [List.getElem?_append_right (by simp; omega), List.getElem?_replicate, hd, Bool.false_and, if_pos (by simp; omega)]
  · rw [List.getElem?_eq_none (by rw [bitsOf_len]; omega), List.getElem?_eq_none (by simp; omega)]
 rw [fold_bits, e, List.foldl_append, List.foldl_append, fold_falses, fold_falses, bits_nil] at h
 have h2 := bits_zero _ h
 rw [← bits_stream n _ _ hn (fun i hi => by rw [hx, decide_eq_false (show ¬ i < n by omega), Bool.false_and]), BitVec.zero_xor] at h2
 have h3 := bits_zero _ h2
 intro i hi
 have h4 := hx i
 rw [h3, BitVec.getLsbD_zero, decide_eq_true hi, Bool.true_and] at h4
 exact h4.symm
/-! turning bits one by one -/
def flip (d : List (BitVec 8)) (q : Nat) : List (BitVec 8) := d.set (q / 8) (d.getD (q / 8) 0#8 ^^^ (1#8 <<< (q % 8)))
def turned (d : List (BitVec 8)) (at_ : Nat) (m : BitVec 32) : Nat → List (BitVec 8)
 | 0 => d
 | i + 1 => if m.getLsbD i then flip (turned d at_ m i) (at_ + i) else turned d at_ m i
theorem row_len {xs : List (BitVec 8)} {k n i : Nat} (hkn : k ≤ n) (hi : i < n) : (rowAt (enc xs k n) i).length = lenOf xs.length k :=
 rowAt_len encD_all (by rw [enc_len hkn]; exact hi)
theorem whole_own {xs : List (BitVec 8)} {k n i : Nat} (hk : 1 ≤ k) (hkn : k ≤ n) (hn : n ≤ 255) (hs : xs.length ≤ 65536) (hi : i < n) {hd : Hdr} {dt : List (BitVec 8)} (hdl : dt.length = lenOf xs.length k) (e1 : hd.size = (xs.length : Int)) (e2 : hd.kk = (k : Int)) (e3 : hd.nn = (n : Int)) (e4 : hd.id.index = (i : Int)) : wholeE hd dt = if crcF dt = hd.sum then 0 else 92 := by
 have hok : okZ hd.size hd.kk hd.nn := by unfold okZ; omega
 have h1 : ezI hd.size hd.kk hd.nn = 0 := if_pos hok
 have h2 : lzI hd.size hd.kk hd.nn = ((lenOf xs.length k : Nat) : Int) := by
  unfold lzI
  rw [if_pos hok, e1, e2]; rfl
 unfold wholeE
 rw [if_neg (by rw [h1]; omega), if_neg (by rw [h2, hdl]; simp)]
 by_cases hc : crcF dt = hd.sum
 · rw [if_neg (by rw [hc]; simp), if_pos hc]
 · rw [if_pos (show (((crcF dt).toNat : Nat) : Int) ≠ ((hd.sum.toNat : Nat) : Int) from fun e => hc (BitVec.eq_of_toNat_eq (Int.ofNat.inj e))), if_neg hc]
def pcs (xs : List (BitVec 8)) (k n : Nat) : List Pc := (List.range n).map fun (i : Nat) => (⟨(i : Int), rowAt (enc xs k n) i⟩ : Pc)
theorem pcs_len (xs : List (BitVec 8)) (k n : Nat) : (pcs xs k n).length = n := by simp [pcs]
theorem pcs_of {xs : List (BitVec 8)} {k n : Nat} : Of xs k n (pcs xs k n) where
 nd := by
  unfold pcs
  rw [List.map_map, List.Nodup, List.pairwise_map]
  exact List.nodup_range.imp fun h e => h (Int.ofNat.inj e)
 rng p hp := by
  obtain ⟨i, hi, rfl⟩ := List.mem_map.1 hp
  have := List.mem_range.1 hi
  show (0 : Int) ≤ (i : Int) ∧ (i : Int) < (n : Int)
  omega
 dat p hp := by
  obtain ⟨i, hi, rfl⟩ := List.mem_map.1 hp
  rfl
theorem pcs_snoc {xs : List (BitVec 8)} {k n i : Nat} (h : i < n) : (pcs xs k n).take i ++ [⟨(i : Int), rowAt (enc xs k n) i⟩] = (pcs xs k n).take (i + 1) := by
 refine take_snoc ?_
 unfold pcs
 rw [List.getElem?_map, List.getElem?_range h]
 rfl
theorem Of.drop {xs : List (BitVec 8)} {k n : Nat} {ys : List Pc} (h : Of xs k n ys) (m : Nat) : Of xs k n (ys.drop m) where
 nd := ((List.drop_sublist m ys).map Pc.index).nodup h.nd
 rng p hp := h.rng p (List.mem_of_mem_drop hp)
 dat p hp := h.dat p (List.mem_of_mem_drop hp)

/-! a write of which each node is asked -/
def nodesA (n : Nat) : List Int := (List.range n).map fun i : Nat => (i : Int) + 1
theorem nodesA_len (n : Nat) : (nodesA n).length = n := by simp [nodesA]
theorem nodesA_get {n i : Nat} (h : i < n) : (nodesA n)[i]? = some ((i : Int) + 1) := by simp [nodesA, h]
theorem nodesA_snoc (n : Nat) : nodesA n ++ [(n : Int) + 1] = nodesA (n + 1) := by simp [nodesA, List.range_succ]
def bW (xs : List (BitVec 8)) (k n : Nat) : Wr := beginW 1 1 ⟨#[97]⟩ xs k n ⟨0, 1, nodesA n, 0⟩ 100
def ackL (n : Nat) (seen : List Int) : List Int := ((List.range n).map fun k : Nat => (k : Int)).filter fun k => decide (k ∈ seen)
def bD (xs : List (BitVec 8)) (k n : Nat) (seen : List Int) : Wr := { bW xs k n with acks := ackL n seen, done := if seen.length = n then 1 else 0 }
theorem bW_D {xs : List (BitVec 8)} {k n : Nat} (hn : 1 ≤ n) : bW xs k n = bD xs k n [] := by
 unfold bD ackL bW beginW
 rw [if_neg (by rw [List.length_nil]; omega)]
 simp
section
variable {xs : List (BitVec 8)} {k n : Nat} {seen : List Int}
theorem bD_heads (hkn : k ≤ n) : (bD xs k n seen).heads.length = n := by
 show (headsOf _ _ _ (enc xs k n)).length = n
 rw [headsOf_len, enc_len hkn]
theorem bD_chunks (hkn : k ≤ n) : (bD xs k n seen).chunks.length = n := enc_len hkn
theorem bD_nodes : (bD xs k n seen).nodes.length = n := nodesA_len n
theorem bD_right (hkn : k ≤ n) : rightW (bD xs k n seen) = true := by
 unfold rightW
 rw [bD_heads hkn, bD_chunks hkn, bD_nodes]
 exact decide_eq_true ⟨rfl, rfl⟩
theorem bD_done : 0 ≤ (bD xs k n seen).done ∧ (bD xs k n seen).done ≤ 1 := by
 show (0 : Int) ≤ (if seen.length = n then 1 else 0) ∧ (if seen.length = n then (1 : Int) else 0) ≤ 1
 split <;> decide
theorem bD_bd : (0 ≤ (bD xs k n seen).client ∧ (bD xs k n seen).client ≤ 18446744073709551615) ∧ (0 ≤ (bD xs k n seen).seq ∧ (bD xs k n seen).seq ≤ 18446744073709551615) ∧ (bD xs k n seen).key.size ≤ maxLen ∧
 (bD xs k n seen).waited = 0 ∧ ((bD xs k n seen).limit = 100) ∧ 0 ≤ (bD xs k n seen).done ∧ (bD xs k n seen).done ≤ 1 :=
 ⟨⟨by show (0 : Int) ≤ 1; decide, by show (1 : Int) ≤ _; decide⟩, ⟨by show (0 : Int) ≤ 1; decide, by show (1 : Int) ≤ _; decide⟩, by show (1 : Nat) ≤ maxLen; simp [maxLen], rfl, rfl, bD_done⟩
theorem ackL_nodup : (ackL n seen).Nodup := by
 refine List.filter_sublist.nodup ?_
 exact List.Pairwise.map _ (fun a b h e => h (by omega)) List.nodup_range
theorem mem_ackL {x : Int} : x ∈ ackL n seen ↔ (0 ≤ x ∧ x < n) ∧ x ∈ seen := by
 unfold ackL
 rw [List.mem_filter, List.mem_map, decide_eq_true_iff]
 constructor
 · rintro ⟨⟨k, hk, rfl⟩, h⟩
   have := List.mem_range.1 hk
   exact ⟨⟨by omega, by omega⟩, h⟩
 · rintro ⟨⟨h1, h2⟩, h⟩
   exact ⟨⟨x.toNat, List.mem_range.2 (by omega), by omega⟩, h⟩
theorem ackL_len (hd : seen.Nodup) (hs : ∀ x ∈ seen, 0 ≤ x ∧ x < (n : Int)) : (ackL n seen).length = seen.length :=
 ((List.perm_ext_iff_of_nodup ackL_nodup hd).2 fun x => by
  rw [mem_ackL]
  exact ⟨fun h => h.2, fun h => ⟨hs x h, h⟩⟩).length_eq
theorem ackL_same {c : Int} (h : c ∈ seen) : ackL n (seen ++ [c]) = ackL n seen := by
 unfold ackL
 refine List.filter_congr fun k _ => decide_eq_decide.2 ?_
 rw [List.mem_append, List.mem_singleton]
 exact ⟨fun hh => hh.elim id fun e => e ▸ h, .inl⟩
theorem ack_full {c : Nat} (hd : seen.Nodup) (hs : ∀ x ∈ seen, 0 ≤ x ∧ x < (n : Int)) (hl : seen.length = n) (hc : c < n) : (c : Int) ∈ seen := by
 have h1 : (ackL n seen).length = ((List.range n).map fun k : Nat => (k : Int)).length := by
  rw [ackL_len hd hs, hl, List.length_map, List.length_range]
 have h2 := List.length_filter_eq_length_iff.1 h1 (c : Int) (List.mem_map.2 ⟨c, List.mem_range.2 hc, rfl⟩)
 exact of_decide_eq_true h2
theorem seen_le (hd : seen.Nodup) (hs : ∀ x ∈ seen, 0 ≤ x ∧ x < (n : Int)) : seen.length ≤ n := by
 rw [← ackL_len hd hs]
 have := List.length_filter_le (fun k : Int => decide (k ∈ seen)) ((List.range n).map fun k : Nat => (k : Int))
 rw [List.length_map, List.length_range] at this
 exact this
theorem acksOf_bD {c : Nat} : acksOf (bD xs k n seen) c n = ackL n (seen ++ [(c : Int)]) := by
 unfold acksOf ackL
 refine List.filter_congr fun x hx => ?_
 obtain ⟨q, hq, rfl⟩ := List.mem_map.1 hx
 have hq := List.mem_range.1 hq
 have h1 : ((q : Int) ∈ (bD xs k n seen).acks) ↔ (q : Int) ∈ seen := by
  show (q : Int) ∈ ackL n seen ↔ _
  rw [mem_ackL]
  exact ⟨fun h => h.2, fun h => ⟨⟨by omega, by omega⟩, h⟩⟩
 rw [Bool.eq_iff_iff, Bool.or_eq_true, decide_eq_true_iff, decide_eq_true_iff, decide_eq_true_iff, h1, List.mem_append, List.mem_singleton]
 exact Or.comm
def hdB (xs : List (BitVec 8)) (k n i : Nat) : Hdr := ⟨⟨1, (i : Int), 0⟩, (k : Int), (n : Int), (xs.length : Int), crcF (rowAt (enc xs k n) i)⟩
theorem bW_head {i : Nat} (hkn : k ≤ n) (hi : i < n) : (bW xs k n).heads[i]? = some (hdB xs k n i) := by
 have hl : i < (enc xs k n).length := by rw [enc_len hkn]; exact hi
 have h := headsOf_get (id := ⟨1, 0, 0⟩) (size := xs.length) (k := k) hl
 rw [enc_len hkn] at h
 unfold hdB
 rw [rowAt_eq hl]
 exact h
theorem hit_bD {c i : Nat} {frm : Int} (hkn : k ≤ n) (hc : c < n) (hi : i < n) : hitW (bD xs k n seen) frm (hdB xs k n c) i = (decide (i = c) && decide (frm = (c : Int) + 1)) := by
 unfold hitW
 show (decide ((bW xs k n).heads[i]? = some (hdB xs k n c)) && decide ((nodesA n)[i]? = some frm)) = _
 rw [bW_head hkn hi, nodesA_get hi]
 by_cases hic : i = c
 · subst hic
   rw [decide_eq_true rfl, decide_eq_true rfl, Bool.true_and, Bool.true_and]
   exact decide_eq_decide.2 ⟨fun e => (Option.some.inj e).symm, fun e => by rw [e]⟩
 · rw [decide_eq_false hic, Bool.false_and, decide_eq_false, Bool.false_and]
   intro e
   have e2 := congrArg (fun h : Hdr => h.id.index) (Option.some.inj e)
   exact hic (Int.ofNat.inj e2)
def seenNext (seen : List Int) (c : Int) (fr : Nat) : List Int := if fr = 0 ∧ ¬ c ∈ seen then seen ++ [c] else seen
theorem sn_yes {c : Int} {fr : Nat} (h : fr = 0) (h2 : ¬ c ∈ seen) : seen ++ [c] = seenNext seen c fr := (if_pos ⟨h, h2⟩).symm
theorem sn_no1 {c : Int} {fr : Nat} (h : ¬ fr = 0) : seen = seenNext seen c fr := (if_neg (fun q => h q.1)).symm
theorem sn_no2 {c : Int} {fr : Nat} (h : c ∈ seen) : seen = seenNext seen c fr := (if_neg (fun q => q.2 h)).symm
theorem sn_ok {c fr : Nat} (hd : seen.Nodup) (hs : ∀ x ∈ seen, 0 ≤ x ∧ x < (n : Int)) (hc : c < n) : (seenNext seen (c : Int) fr).Nodup ∧ ∀ x ∈ seenNext seen (c : Int) fr, 0 ≤ x ∧ x < (n : Int) := by
 unfold seenNext
 split
 · rename_i h
   refine ⟨List.nodup_append.2 ⟨hd, by simp, ?_⟩, ?_⟩
   · intro a ha b hb e
     rw [List.mem_singleton] at hb
     exact h.2 (by rw [← hb, ← e]; exact ha)
   · intro x hx
     rcases List.mem_append.1 hx with h1 | h1
     · exact hs x h1
     · rw [List.mem_singleton] at h1
       omega
 · exact ⟨hd, hs⟩
theorem got_bD {c fr : Nat} {hd : Hdr} (hkn : k ≤ n) (hc : c < n) (hnd : seen.Nodup) (hs : ∀ x ∈ seen, 0 ≤ x ∧ x < (n : Int)) (hh : hd = hdB xs k n c) :
 gotOf (bD xs k n seen) 10 ((c : Int) + 1 + (fr : Int)) hd true = (bD xs k n (seenNext seen (c : Int) fr), (bD xs k n (seenNext seen (c : Int) fr)).done) := by
 subst hh
 have hL : (bD xs k n seen).heads.length = n := bD_heads hkn
 unfold gotOf
 by_cases hl : seen.length = n
 · have hm := ack_full hnd hs hl hc
   rw [if_pos (.inr (.inl (by show (if seen.length = n then (1 : Int) else 0) ≠ 0; rw [if_pos hl]; decide))), ← sn_no2 hm]
 · have hd0 : (bD xs k n seen).done = 0 := if_neg hl
   rw [if_neg (by rw [bD_right hkn, hd0]; simp), hL]
   by_cases hf : fr = 0
   · have hfi : (List.range n).find? (hitW (bD xs k n seen) ((c : Int) + 1 + (fr : Int)) (hdB xs k n c)) = some c := by
      have := find_hit (W := bD xs k n seen) (frm := (c : Int) + 1 + (fr : Int)) (hd := hdB xs k n c) (i := c) (by rw [hL]; exact hc) (by rw [hit_bD hkn hc hc]; simp [hf]) fun j hj => by
       rw [hit_bD hkn hc (by omega)]
       simp
       omega
      rwa [hL] at this
     rw [hfi]
     simp only [acksOf_bD]
     rw [if_neg (by decide)]
     by_cases hm : (c : Int) ∈ seen
     · rw [ackL_same hm, ← sn_no2 hm, if_neg (by rw [ackL_len hnd hs]; exact hl)]
       rfl
     · have ho := sn_ok (fr := 0) hnd hs hc
       rw [← sn_yes rfl hm] at ho
       rw [← sn_yes hf hm, ackL_len ho.1 ho.2]
       by_cases hl2 : (seen ++ [(c : Int)]).length = n
       · rw [if_pos hl2]
         unfold bD
         simp only [if_pos hl2]
       · rw [if_neg hl2, hd0]
         unfold bD
         simp only [if_neg hl2]
   · have hfi : (List.range n).find? (hitW (bD xs k n seen) ((c : Int) + 1 + (fr : Int)) (hdB xs k n c)) = none := by
      have := find_none (W := bD xs k n seen) (frm := (c : Int) + 1 + (fr : Int)) (hd := hdB xs k n c) fun j hj => by
       rw [hL] at hj
       rw [hit_bD hkn hc hj]
       simp
       omega
      rwa [hL] at this
     rw [hfi, ← sn_no1 hf]
theorem bmsgs_all (hkn : k ≤ n) {i : Nat} (hi : i < n) : (msgsOf (bW xs k n))[i]? = some (prepOf (bW xs k n) i) := by
 have hL : (bW xs k n).heads.length = n := bD_heads (seen := []) hkn
 have ha : (bW xs k n).acks = [] := rfl
 unfold msgsOf
 rw [hL]
 have : ∀ m, msgsTo (bW xs k n) m = (List.range m).map (prepOf (bW xs k n)) := by
  intro m
  induction m with
  | zero => rfl
  | succ m ih => rw [← msgsTo_yes (by rw [ha]; simp), ih, List.range_succ, List.map_append]; rfl
 rw [this]
 simp [hi]
theorem bmsgs_len (hkn : k ≤ n) : (msgsOf (bW xs k n)).length = n := by
 have hL : (bW xs k n).heads.length = n := bD_heads (seen := []) hkn
 have : ∀ m, (msgsTo (bW xs k n) m).length = m := by
  intro m
  induction m with
  | zero => rfl
  | succ m ih => rw [← msgsTo_yes (by show ¬ _ ∈ ([] : List Int); simp), List.length_append, ih]; rfl
 unfold msgsOf
 rw [hL, this]
theorem bprep_head {i : Nat} (hkn : k ≤ n) (hi : i < n) : (prepOf (bW xs k n) i).head = hdB xs k n i := by
 have hl : i < (bW xs k n).heads.length := by rw [show (bW xs k n).heads.length = n from bD_heads (seen := []) hkn]; exact hi
 have h := bW_head (xs := xs) hkn hi
 show (bW xs k n).heads.getD i _ = _
 rw [getD_at _ hl]
 rw [List.getElem?_eq_getElem hl] at h
 exact Option.some.inj h
theorem bprep_data {i : Nat} (hkn : k ≤ n) (hi : i < n) : (prepOf (bW xs k n) i).data = rowAt (enc xs k n) i := by
 have hl : i < (enc xs k n).length := by rw [enc_len hkn]; exact hi
 show (enc xs k n).getD i [] = _
 rw [getD_at _ hl, rowAt_eq hl]
theorem bprep_to {i : Nat} (hi : i < n) : (prepOf (bW xs k n) i).to = (i : Int) + 1 := by
 have hl : i < (nodesA n).length := by rw [nodesA_len]; exact hi
 show (nodesA n).getD i 0 = _
 rw [getD_at _ hl]
 have := nodesA_get hi
 rw [List.getElem?_eq_getElem hl] at this
 exact Option.some.inj this
end
theorem all_v {e : Int} {L n : Nat} (h : e = if L = n then 1 else 0) : (e == 1) = (((L : Nat) : Int) == (n : Int)) := by
 rw [h]
 by_cases hl : L = n
 · subst hl
   simp
 · rw [if_neg hl, beq_eq_false_iff_ne.2 (show ((L : Nat) : Int) ≠ (n : Int) by omega)]
   rfl
theorem all_v2 {e : Int} {L n : Nat} (h : e = if L = n then 1 else 0) : ¬ e = 2 := by
 rw [h]
 split <;> decide

theorem in12_spec {S : Nat → Prop} {w : World} {xs : List Int} {a : Option Addr} {c : Nat} (x : Int) (h : (Shape.slice (Shape.int .i64)).rep S w [.slice a xs.length c] xs) :
 Calls Try.prog 24 #[.I x, .slice a xs.length c] w (Ret fun v w' => Ext w w' ∧ v = .bool (decide (x ∈ xs))) := by
 have hxl := Shape.slice_len h
 refine qS (fn := Try.f24) (n := 18) (σ := [(0, .I x), (1, .slice a xs.length c)]) Try.func24 ?_
 have H := Hp.startF (w := w) (S := S) (G := [Rp (Shape.slice (Shape.int .i64)) [.slice a xs.length c] xs]) (.rp h .nil)
 refine qR 6 [.c [1, 0, 1, 0], .b 0, .c [2]] [(0, .I x), (1, .slice a xs.length c), (5, .I 0)] ?_
 refine WK.loop (α := Nat) (b := cd Try.prog 24 [1, 0, 1, 0, 0]) (by as_aux_lemma => kernel_rfl) (fun k => [(0, .I x), (1, .slice a xs.length c), (5, .I k)]) (fun k w' => Hp w S [] [] [] [Rp (Shape.slice (Shape.int .i64)) [.slice a xs.length c] xs] w' ∧ k ≤ xs.length ∧ ¬ x ∈ xs.take k) (fun k => xs.length - k) 0 ⟨H, by omega, by simp⟩ (rfl) ?_
 rintro k w2 ⟨H, hinv0⟩ hback1
 refine qR 3 [.c [1, 0, 1, 0, 0, 0, 1], .c [1, 0, 1, 0, 0, 1], .l [1, 0, 1, 0, 0], .b 0, .c [2]] [(0, .I x), (1, .slice a xs.length c), (5, .I k), (9, .bool (decide (((k : Int) : Int) < ((xs.length : Nat) : Int))))] ?_
 refine qD (((k : Int) : Int) < ((xs.length : Nat) : Int)) (fun h3 => ?_) (fun h3 => ?_)
 ·
  refine qR 4 [.c [1, 0, 1, 0, 0, 1, 0, 0, 0], .c [1, 0, 1, 0, 0, 1, 0, 0, 1], .b 1, .c [1, 0, 1, 0, 0, 2], .l [1, 0, 1, 0, 0], .b 0, .c [2]] [(0, .I x), (1, .slice a xs.length c), (5, .I k)] ?_
  refine qG (sq 0 6) ?_
  refine qP 2 (sq 2 6) [(0, .I x), (1, .slice a xs.length c), (5, .I k), (12, .slice a xs.length c), (13, .I k)] ?_
  have hx4 : k < xs.length := by omega
  refine qX .seq 14 (sq 3 6) 25 3 (k : Int) (Shape.int .i64) (xs[k]) H 0 rfl k (by omega) (List.getElem?_eq_getElem hx4) ?_
  intro b5 o6 es7 hr8 H
  have hb9 := Shape.i64_bd hr8
  obtain ⟨rfl, -⟩ := hr8
  refine qL .seq 15 (sq 4 6) 3 b5 o6 0 (.I (xs[k])) (H.fc 0 rfl) ?_
  refine qF 2 [(0, .I x), (1, .slice a xs.length c), (5, .I k), (17, .bool ((xs[k]) == x))] ?_
  refine qE (xs[k]) x (fun h10 => ?_) (fun h10 => ?_)
  ·
   refine qR 2 [.c [1, 0, 1, 0, 0, 1, 0, 0, 1, 0, 1], .b 1, .c [1, 0, 1, 0, 0, 2], .l [1, 0, 1, 0, 0], .b 0, .c [2]] [(4, .bool true)] ?_
   refine qT (.bool true) Try.func24 ?_
   refine ⟨_, rfl, H.done, ?_⟩
   congr 1
   exact (decide_eq_true (by first | (rename_i hq; rw [← hq]; exact List.getElem_mem _) | (subst_vars; exact List.getElem_mem _))).symm
  ·
   refine qR 2 [.c [1, 0, 1, 0, 0, 2], .l [1, 0, 1, 0, 0], .b 0, .c [2]] [(0, .I x), (1, .slice a xs.length c), (5, .I k)] ?_
   refine qG (sq 0 3) ?_
   refine qP 1 (sq 1 3) [(0, .I x), (1, .slice a xs.length c), (5, .I k), (10, .I k)] ?_
   refine qI .seq 11 (sq 2 3) ((k : Int) + 1) ?_
   refine qF 1 [(0, .I x), (1, .slice a xs.length c), (5, .I ((k : Int) + 1))] ?_
   have H := H.pick [1] (G' := [Rp (Shape.slice (Shape.int .i64)) [.slice a xs.length c] xs]) rfl
   exact WK.back (hback1 (k + 1) _ ⟨H, by omega, by rw [List.take_succ_eq_append_getElem (by omega), List.mem_append, List.mem_singleton]; rintro (q | q); exact hinv0.2 q; exact absurd q.symm (by assumption)⟩ (by first | omega | (simp only []; omega))) (by as_aux_lemma => kernel_rfl)
 ·
  refine qR 3 [.c [3]] [(4, .bool false)] ?_
  refine qT (.bool false) Try.func24 ?_
  refine ⟨_, rfl, H.done, ?_⟩
  congr 1
  have hke : k = xs.length := by omega
  rw [hke, List.take_length] at hinv0
  exact (decide_eq_false hinv0.2).symm

theorem all_bad {S : Nat → Prop} {w : World} {xs : List (BitVec 8)} {a : Option Addr} {c : Nat} (h : SB.rep S w [.slice a xs.length c] xs) {ys : List Int} {b : Option Addr} {d : Nat} (h2 : (Shape.slice (Shape.int .i64)).rep S w [.slice b ys.length d] ys) (k n : Int) (hb : ¬ (1 ≤ k ∧ k ≤ n ∧ n ≤ 20 ∧ xs.length ≤ 2000)) :
 Calls Try.prog 12 #[.slice a xs.length c, .I k, .I n, .slice b ys.length d] w (Ret fun v w' => Ext w w' ∧ v = .bool true) := by
 refine qS (fn := Try.f12) (n := 190) (σ := [(0, .slice a xs.length c), (1, .I k), (2, .I n), (3, .slice b ys.length d)]) Try.func12 ?_
 have H := Hp.startF (w := w) (S := S) (G := [Rp SB [.slice a xs.length c] xs, Rp (Shape.slice (Shape.int .i64)) [.slice b ys.length d] ys]) (.rp h (.rp h2 .nil))
 refine qR 4 [.c [1, 0, 0], .c [1, 0, 1], .c [2]] [(0, .slice a xs.length c), (1, .I k), (2, .I n), (3, .slice b ys.length d)] ?_
 refine WK.join (fun b_ : Bool => b_ = decide (k < 1 ∨ k > n ∨ n > 20 ∨ xs.length > 2000)) (fun b_ => [(0, .slice a xs.length c), (1, .I k), (2, .I n), (3, .slice b ys.length d), (39, .bool b_)]) [Cq Try.prog 12 [1, 0, 1], Cq Try.prog 12 [2]] (fun hJ1 => ?_) (fun bj2 hbj3 => ?_)
 ·
  refine qG (sq 0 16) ?_
  refine qP 3 (sq 3 16) [(0, .slice a xs.length c), (1, .I k), (2, .I n), (3, .slice b ys.length d), (26, .bool (decide ((k : Int) < 1)))] ?_
  refine tD (fun b_ => [(0, .slice a xs.length c), (1, .I k), (2, .I n), (3, .slice b ys.length d), (26, .bool b_)]) ((k : Int) < 1) (fun h4 => ?_) (fun h4 => ?_)
  ·
   refine qF 13 [(0, .slice a xs.length c), (1, .I k), (2, .I n), (3, .slice b ys.length d), (39, .bool true)] ?_
   exact hJ1 true ((decide_eq_true (by omega)).symm)
  ·
   refine qP 5 (sq 8 16) [(0, .slice a xs.length c), (1, .I k), (2, .I n), (3, .slice b ys.length d), (31, .bool (decide ((k : Int) > n)))] ?_
   refine tD (fun b_ => [(0, .slice a xs.length c), (1, .I k), (2, .I n), (3, .slice b ys.length d), (31, .bool b_)]) ((k : Int) > n) (fun h5 => ?_) (fun h5 => ?_)
   ·
    refine qF 8 [(0, .slice a xs.length c), (1, .I k), (2, .I n), (3, .slice b ys.length d), (39, .bool true)] ?_
    exact hJ1 true ((decide_eq_true (by omega)).symm)
   ·
    refine qP 4 (sq 12 16) [(0, .slice a xs.length c), (1, .I k), (2, .I n), (3, .slice b ys.length d), (35, .bool (decide ((n : Int) > 20)))] ?_
    refine tD (fun b_ => [(0, .slice a xs.length c), (1, .I k), (2, .I n), (3, .slice b ys.length d), (35, .bool b_)]) ((n : Int) > 20) (fun h6 => ?_) (fun h6 => ?_)
    ·
     refine qF 4 [(0, .slice a xs.length c), (1, .I k), (2, .I n), (3, .slice b ys.length d), (39, .bool true)] ?_
     exact hJ1 true ((decide_eq_true (by omega)).symm)
    ·
     refine qF 4 [(0, .slice a xs.length c), (1, .I k), (2, .I n), (3, .slice b ys.length d), (39, .bool (decide ((((xs.length : Nat) : Int) : Int) > 2000)))] ?_
     exact hJ1 (decide ((((xs.length : Nat) : Int) : Int) > 2000)) (decide_eq_decide.2 (by constructor <;> intro _ <;> omega))
 ·
  refine qC bj2 (fun h7 => ?_) (fun h7 => ?_)
  ·
   rw [hbj3] at h7
   replace h7 := of_decide_eq_true h7
   refine qR 1 [.c [1, 0, 1, 0, 0], .c [1, 0, 1, 0, 1], .c [2]] [] ?_
   refine qG (sq 0 2) ?_
   refine qK .seq (some 40) (sq 1 2) 22 #[] (heads_spec (S := fun _ => True)) ?_
   rintro _ w8 hE9 rfl
   have H := H.ext hE9
   refine qF 1 [(8, .bool true)] ?_
   refine qT (.bool true) Try.func12 ?_
   exact ⟨_, rfl, H.done, rfl⟩
  ·
   rw [hbj3] at h7
   replace h7 := of_decide_eq_false h7
   exact absurd (by omega) hb

set_option maxHeartbeats 4000000 in
theorem all_ok {S : Nat → Prop} {w : World} {xs : List (BitVec 8)} {a : Option Addr} {c : Nat} (h : SB.rep S w [.slice a xs.length c] xs) {ys : List Int} {b : Option Addr} {d : Nat} (h2 : (Shape.slice (Shape.int .i64)).rep S w [.slice b ys.length d] ys) {k n : Nat} (hk : 1 ≤ k) (hkn : k ≤ n) (hn : n ≤ 20) (hs : xs.length ≤ 2000) :
 Calls Try.prog 12 #[.slice a xs.length c, .I k, .I n, .slice b ys.length d] w (Ret fun v w' => Ext w w' ∧ v = .bool true) := by
 have hyl := Shape.slice_len h2
 refine qS (fn := Try.f12) (n := 190) (σ := [(0, .slice a xs.length c), (1, .I k), (2, .I n), (3, .slice b ys.length d)]) Try.func12 ?_
 have H := Hp.startF (w := w) (S := S) (G := [Rp SB [.slice a xs.length c] xs, Rp (Shape.slice (Shape.int .i64)) [.slice b ys.length d] ys]) (.rp h (.rp h2 .nil))
 refine qR 4 [.c [1, 0, 0], .c [1, 0, 1], .c [2]] [(0, .slice a xs.length c), (1, .I k), (2, .I n), (3, .slice b ys.length d)] ?_
 refine qG (sq 0 16) ?_
 refine qP 3 (sq 3 16) [(0, .slice a xs.length c), (1, .I k), (2, .I n), (3, .slice b ys.length d), (26, .bool (decide (((k : Int) : Int) < 1)))] ?_
 refine tD (fun b_ => [(0, .slice a xs.length c), (1, .I k), (2, .I n), (3, .slice b ys.length d), (26, .bool b_)]) (((k : Int) : Int) < 1) (fun h1 => ?_) (fun h1 => ?_)
 ·
  omega
 ·
  refine qP 5 (sq 8 16) [(0, .slice a xs.length c), (1, .I k), (2, .I n), (3, .slice b ys.length d), (31, .bool (decide (((k : Int) : Int) > (n : Int))))] ?_
  refine tD (fun b_ => [(0, .slice a xs.length c), (1, .I k), (2, .I n), (3, .slice b ys.length d), (31, .bool b_)]) (((k : Int) : Int) > (n : Int)) (fun h2 => ?_) (fun h2 => ?_)
  ·
   omega
  ·
   refine qP 4 (sq 12 16) [(0, .slice a xs.length c), (1, .I k), (2, .I n), (3, .slice b ys.length d), (35, .bool (decide (((n : Int) : Int) > 20)))] ?_
   refine tD (fun b_ => [(0, .slice a xs.length c), (1, .I k), (2, .I n), (3, .slice b ys.length d), (35, .bool b_)]) (((n : Int) : Int) > 20) (fun h3 => ?_) (fun h3 => ?_)
   ·
    omega
   ·
    refine qF 4 [(0, .slice a xs.length c), (1, .I k), (2, .I n), (3, .slice b ys.length d), (39, .bool (decide ((((xs.length : Nat) : Int) : Int) > 2000)))] ?_
    refine qD ((((xs.length : Nat) : Int) : Int) > 2000) (fun h4 => ?_) (fun h4 => ?_)
    ·
     omega
    ·
     refine qR 7 [.c [3, 0, 1, 0], .b 0, .c [4]] [(0, .slice a xs.length c), (1, .I k), (2, .I n), (3, .slice b ys.length d), (9, .slice none 0 0), (10, .I 0)] ?_
     have H := H.ownNil (Shape.int .i64) 3
     have H : Hp w S [] [] [⟨Shape.int .i64, 3, .slice none (nodesA 0).length 0, nodesA 0⟩] [Rp SB [.slice a xs.length c] xs, Rp (Shape.slice (Shape.int .i64)) [.slice b ys.length d] ys] w := H
     refine WK.loop (α := Nat × Option Addr × Nat) (b := cd Try.prog 12 [3, 0, 1, 0, 0]) (by as_aux_lemma => kernel_rfl) (fun st_ => match st_ with | (q, na, nc) => [(0, .slice a xs.length c), (1, .I k), (2, .I n), (3, .slice b ys.length d), (9, .slice na (nodesA q).length nc), (10, .I q)]) (fun st_ w' => match st_ with | (q, na, nc) => Hp w S [] [] [⟨Shape.int .i64, 3, .slice na (nodesA q).length nc, nodesA q⟩] [Rp SB [.slice a xs.length c] xs, Rp (Shape.slice (Shape.int .i64)) [.slice b ys.length d] ys] w' ∧ q ≤ n) (fun st_ => match st_ with | (q, na, nc) => n - q) (0, none, 0) ⟨H, by omega⟩ (rfl) ?_
     rintro ⟨q, na, nc⟩ w6 ⟨H, hinv0⟩ hback5
     refine qR 3 [.c [3, 0, 1, 0, 0, 0, 1], .c [3, 0, 1, 0, 0, 1], .l [3, 0, 1, 0, 0], .b 0, .c [4]] [(0, .slice a xs.length c), (1, .I k), (2, .I n), (3, .slice b ys.length d), (9, .slice na (nodesA q).length nc), (10, .I q), (43, .bool (decide (((q : Int) : Int) < (n : Int))))] ?_
     refine qD (((q : Int) : Int) < (n : Int)) (fun h7 => ?_) (fun h7 => ?_)
     ·
      refine qR 3 [.c [3, 0, 1, 0, 0, 1, 0, 0], .b 1, .c [3, 0, 1, 0, 0, 2], .l [3, 0, 1, 0, 0], .b 0, .c [4]] [(0, .slice a xs.length c), (1, .I k), (2, .I n), (3, .slice b ys.length d), (9, .slice na (nodesA q).length nc), (10, .I q)] ?_
      refine qG (sq 0 6) ?_
      refine qP 2 (sq 2 6) [(0, .slice a xs.length c), (1, .I k), (2, .I n), (3, .slice b ys.length d), (9, .slice na (nodesA q).length nc), (10, .I q), (46, .slice na (nodesA q).length nc), (47, .I q)] ?_
      refine qI .seq 48 (sq 3 6) ((q : Int) + 1) ?_
      refine RW.new (κ := .seq) (d := some 49) (r := (sq 4 6)) (o := .cells #[.I ((q : Int) + 1)] 3 (0, 0)) (v := fun b => .slice (some ⟨b, 0, none⟩) 1 1) (fun b => by as_aux_lemma => kernel_rfl) (nofun) H ?_
      intro b8 w9 H
      have H := H.freeze 0 rfl (Shape.int .i64) ([(q : Int) + 1] : List Int) 1 (by simp [maxLen]) (by first | exact Nat.le_refl _ | simp) (EsP.cons (c := [.I ((q : Int) + 1)]) i64a EsP.nil)
      have H : Hp w S [] [] [⟨Shape.int .i64, 3, .slice na (nodesA q).length nc, nodesA q⟩] [Rp (Shape.slice (Shape.int .i64)) [.slice (some ⟨b8, 0, none⟩) 1 1] ([(q : Int) + 1] : List Int), Rp SB [.slice a xs.length c] xs, Rp (Shape.slice (Shape.int .i64)) [.slice b ys.length d] ys] _ := H
      refine RW.appendW (d := some 50) (r := (sq 5 6)) (T := 25) (ty := 25) (e := 3) (m := 1) (by_ := 8) (v := .slice na (nodesA q).length nc) (a2 := (some ⟨b8, 0, none⟩)) (l2 := 1) (c2 := 1) (zs := nodesA (q + 1)) (by as_aux_lemma => kernel_rfl) (by as_aux_lemma => kernel_rfl) rfl H 0 rfl 0 rfl (nodesA_snoc q) (by rw [nodesA_len]; omega) ?_
      intro a10 c11 w13 H hc12
      have H : Hp w S [] [] [⟨Shape.int .i64, 3, .slice a10 ((nodesA (q + 1)).length) c11, nodesA (q + 1)⟩] [Rp (Shape.slice (Shape.int .i64)) [.slice (some ⟨b8, 0, none⟩) 1 1] ([(q : Int) + 1] : List Int), Rp SB [.slice a xs.length c] xs, Rp (Shape.slice (Shape.int .i64)) [.slice b ys.length d] ys] _ := H
      refine qF 1 [(0, .slice a xs.length c), (1, .I k), (2, .I n), (3, .slice b ys.length d), (9, .slice a10 ((nodesA (q + 1)).length) c11), (10, .I q)] ?_
      refine qR 1 [.c [3, 0, 1, 0, 0, 2], .l [3, 0, 1, 0, 0], .b 0, .c [4]] [(0, .slice a xs.length c), (1, .I k), (2, .I n), (3, .slice b ys.length d), (9, .slice a10 ((nodesA (q + 1)).length) c11), (10, .I q)] ?_
      have H := H.pick [1, 2] rfl
      refine qG (sq 0 3) ?_
      refine qP 1 (sq 1 3) [(0, .slice a xs.length c), (1, .I k), (2, .I n), (3, .slice b ys.length d), (9, .slice a10 ((nodesA (q + 1)).length) c11), (10, .I q), (44, .I q)] ?_
      refine qI .seq 45 (sq 2 3) ((q : Int) + 1) ?_
      refine qF 1 [(0, .slice a xs.length c), (1, .I k), (2, .I n), (3, .slice b ys.length d), (9, .slice a10 ((nodesA (q + 1)).length) c11), (10, .I ((q : Int) + 1))] ?_
      exact WK.back (hback5 (q + 1, a10, c11) _ ⟨H, by omega⟩ (by first | omega | (simp only []; omega))) (by as_aux_lemma => kernel_rfl)
     ·
      have hqn : q = n := by omega
      rw [hqn] at H ⊢
      refine qR 2 [.c [4, 0], .c [5]] [(0, .slice a xs.length c), (1, .I k), (2, .I n), (3, .slice b ys.length d), (9, .slice na (nodesA n).length nc)] ?_
      refine qG (sq 0 14) ?_
      refine qP 5 (sq 5 14) [(0, .slice a xs.length c), (1, .I k), (2, .I n), (3, .slice b ys.length d), (52, .slice a xs.length c), (53, .I k), (54, .I n), (56, .agg #[.I 0, .int .u64 1, .slice na (nodesA n).length nc, .int .u64 0])] ?_
      have H : Hp w S [] [] [] [Rp (Shape.slice (Shape.int .i64)) [.slice na (nodesA n).length nc] (nodesA n), Rp SB [.slice a xs.length c] xs, Rp (Shape.slice (Shape.int .i64)) [.slice b ys.length d] ys] _ := H.freezeW 0 rfl
      refine qK .seq (some 57) (sq 6 14) 18 #[.int .u64 1, .int .u64 1, .string (⟨#[97]⟩), .slice a xs.length c, .I k, .I n, .agg #[.I 0, .int .u64 1, .slice na (nodesA n).length nc, .int .u64 0], .I 100] (begin_ok (xs := xs) (R := ⟨0, 1, nodesA n, 0⟩) 1 1 (⟨#[97]⟩) (H.rp 1 rfl) (res_mk (Shape.int_mk (by decide)) (Shape.int_mk (by decide)) (H.rp 0 rfl) (Shape.int_mk (by decide))) 100 (by first | assumption | decide | (simp [maxLen]; done)) (by omega) (by omega) k n (by first | omega | (simp; done)) (by omega) (by omega) (by omega) (nodesA_len _) (by omega)) ?_
      rintro _ w14 hE18 ⟨cs15, a16, c17, rfl, hr19, hr20⟩
      have H0s := H
      replace hr19 : wrS.rep _ _ cs15 (bW xs k n) := hr19
      obtain ⟨a3q21, k3q21, a4q21, k4q21, a5q21, k5q21, a6q21, k6q21, rfl, hf22, hf23, hf24, hf25, hf26, hf27, hf28, hf29, hf30, hf31⟩ := wr_open hr19
      have H := H.addN hE18 (F := Rp (Shape.slice msgS) [.slice a16 ((msgsOf (bW xs k n)).length) c17] (msgsOf (bW xs k n))) hr20
      have H := H.add (F := Rp (Shape.slice hdrS) [.slice a3q21 ((bW xs k n).heads.length) k3q21] ((bW xs k n).heads)) ((H0s.addN hE18 (F := Rp (Shape.slice hdrS) [.slice a3q21 ((bW xs k n).heads.length) k3q21] ((bW xs k n).heads)) hf25).rp 0 rfl)
      have H := H.add (F := Rp (Shape.slice SB) [.slice a4q21 ((bW xs k n).chunks.length) k4q21] ((bW xs k n).chunks)) ((H0s.addN hE18 (F := Rp (Shape.slice SB) [.slice a4q21 ((bW xs k n).chunks.length) k4q21] ((bW xs k n).chunks)) hf26).rp 0 rfl)
      have H := H.add (F := Rp (Shape.slice (Shape.int .i64)) [.slice a5q21 ((bW xs k n).nodes.length) k5q21] ((bW xs k n).nodes)) ((H0s.addN hE18 (F := Rp (Shape.slice (Shape.int .i64)) [.slice a5q21 ((bW xs k n).nodes.length) k5q21] ((bW xs k n).nodes)) hf27).rp 0 rfl)
      have H := H.add (F := Rp (Shape.slice (Shape.int .i64)) [.slice a6q21 ((bW xs k n).acks.length) k6q21] ((bW xs k n).acks)) ((H0s.addN hE18 (F := Rp (Shape.slice (Shape.int .i64)) [.slice a6q21 ((bW xs k n).acks.length) k6q21] ((bW xs k n).acks)) hf28).rp 0 rfl)
      refine qP 4 (sq 10 14) [(0, .slice a xs.length c), (1, .I k), (2, .I n), (3, .slice b ys.length d), (58, .agg (wrV (bW xs k n) a3q21 k3q21 a4q21 k4q21 a5q21 k5q21 a6q21 k6q21).toArray), (59, .slice a16 ((msgsOf (bW xs k n)).length) c17), (60, .I 0)] ?_
      refine qB .seq 11 (sq 11 14) ((wrZ).toArray) 32 H ?_
      intro b32 w33 H
      refine RW.store (d := none) (r := (sq 12 14)) (T := 32) (b := b32) (k := 0) (v := .agg (wrV (bW xs k n) a3q21 k3q21 a4q21 k4q21 a5q21 k5q21 a6q21 k6q21).toArray) (c' := (wrV (bW xs k n) a3q21 k3q21 a4q21 k4q21 a5q21 k5q21 a6q21 k6q21).toArray) (M' := [(b32, .cells (wrV (bW xs k n) a3q21 k3q21 a4q21 k4q21 a5q21 k5q21 a6q21 k6q21).toArray 32 (0, 0))]) (by as_aux_lemma => kernel_rfl) H 0 rfl (by as_aux_lemma => kernel_rfl) (by as_aux_lemma => kernel_rfl) ?_
      intro w34 H
      refine qF 2 [(0, .slice a xs.length c), (1, .I k), (2, .I n), (3, .slice b ys.length d), (11, .P b32 0), (12, .slice a16 ((msgsOf (bW xs k n)).length) c17), (13, .I 0)] ?_
      refine qR 3 [.c [5, 0, 1], .c [6]] [(0, .slice a xs.length c), (1, .I k), (2, .I n), (3, .slice b ys.length d), (11, .P b32 0), (12, .slice a16 ((msgsOf (bW xs k n)).length) c17), (68, .bool ((((msgsOf (bW xs k n)).length : Nat) : Int) != (n : Int)))] ?_
      refine qN (((msgsOf (bW xs k n)).length : Nat) : Int) (n : Int) (fun h35 => ?_) (fun h35 => ?_)
      ·
       exact absurd (by rw [bmsgs_len hkn]) h35
      ·
       refine qR 7 [.c [7, 0, 1, 0], .b 2, .c [8]] [(0, .slice a xs.length c), (1, .I k), (2, .I n), (3, .slice b ys.length d), (11, .P b32 0), (12, .slice a16 ((msgsOf (bW xs k n)).length) c17), (14, .slice none 0 0), (15, .I 0)] ?_
       have H := H.ownNil pcS 72
       have H := H.drop (M' := [(b32, .cells (wrV (bW xs k n) a3q21 k3q21 a4q21 k4q21 a5q21 k5q21 a6q21 k6q21).toArray 32 (0, 0))]) (W' := [⟨pcS, 72, .slice none (((pcs xs k n).take 0).length) 0, (pcs xs k n).take 0⟩]) (by repeat (first | exact List.Sublist.refl _ | exact List.nil_sublist _ | apply List.Sublist.cons_cons | apply List.Sublist.cons)) (by repeat (first | exact List.Sublist.refl _ | exact List.nil_sublist _ | apply List.Sublist.cons_cons | apply List.Sublist.cons))
       refine WK.loop (α := Nat × Option Addr × Nat) (b := cd Try.prog 12 [7, 0, 1, 0, 0]) (by as_aux_lemma => kernel_rfl) (fun st_ => match st_ with | (i, ao, co) => [(0, .slice a xs.length c), (1, .I k), (2, .I n), (3, .slice b ys.length d), (11, .P b32 0), (12, .slice a16 ((msgsOf (bW xs k n)).length) c17), (14, .slice ao (((pcs xs k n).take i).length) co), (15, .I i)]) (fun st_ w' => match st_ with | (i, ao, co) => Hp w S [] [(b32, .cells (wrV (bW xs k n) a3q21 k3q21 a4q21 k4q21 a5q21 k5q21 a6q21 k6q21).toArray 32 (0, 0))] [⟨pcS, 72, .slice ao (((pcs xs k n).take i).length) co, (pcs xs k n).take i⟩] [Rp (Shape.slice (Shape.int .i64)) [.slice a6q21 ((bW xs k n).acks.length) k6q21] ((bW xs k n).acks), Rp (Shape.slice (Shape.int .i64)) [.slice a5q21 ((bW xs k n).nodes.length) k5q21] ((bW xs k n).nodes), Rp (Shape.slice SB) [.slice a4q21 ((bW xs k n).chunks.length) k4q21] ((bW xs k n).chunks), Rp (Shape.slice hdrS) [.slice a3q21 ((bW xs k n).heads.length) k3q21] ((bW xs k n).heads), Rp (Shape.slice msgS) [.slice a16 ((msgsOf (bW xs k n)).length) c17] (msgsOf (bW xs k n)), Rp (Shape.slice (Shape.int .i64)) [.slice na (nodesA n).length nc] (nodesA n), Rp SB [.slice a xs.length c] xs, Rp (Shape.slice (Shape.int .i64)) [.slice b ys.length d] ys] w' ∧ i ≤ n) (fun st_ => match st_ with | (i, ao, co) => n - i) (0, none, 0) ⟨H, Nat.zero_le _⟩ (rfl) ?_
       rintro ⟨i, ao, co⟩ w37 ⟨H, hinv1⟩ hback36
       refine qR 3 [.c [7, 0, 1, 0, 0, 0, 1], .c [7, 0, 1, 0, 0, 1], .l [7, 0, 1, 0, 0], .b 2, .c [8]] [(0, .slice a xs.length c), (1, .I k), (2, .I n), (3, .slice b ys.length d), (11, .P b32 0), (12, .slice a16 ((msgsOf (bW xs k n)).length) c17), (14, .slice ao (((pcs xs k n).take i).length) co), (15, .I i), (71, .bool (decide (((i : Int) : Int) < (n : Int))))] ?_
       refine qD (((i : Int) : Int) < (n : Int)) (fun h38 => ?_) (fun h38 => ?_)
       ·
        have hwh : wholeE (prepOf (bW xs k n) i).head (prepOf (bW xs k n) i).data = 0 := by rw [bprep_head hkn (by omega), bprep_data hkn (by omega), whole_own hk hkn (by omega) (by omega) (by omega) (row_len hkn (by omega)) rfl rfl rfl rfl]; exact if_pos rfl
        refine qR 5 [.c [7, 0, 1, 0, 0, 1, 0, 0, 0, 0], .c [7, 0, 1, 0, 0, 1, 0, 0, 0, 1], .c [7, 0, 1, 0, 0, 1, 0, 0, 1], .b 3, .c [7, 0, 1, 0, 0, 2], .l [7, 0, 1, 0, 0], .b 2, .c [8]] [(0, .slice a xs.length c), (1, .I k), (2, .I n), (3, .slice b ys.length d), (11, .P b32 0), (12, .slice a16 ((msgsOf (bW xs k n)).length) c17), (14, .slice ao (((pcs xs k n).take i).length) co), (15, .I i)] ?_
        refine WK.draw1 23 [(0, .qui), (1, .qui), (2, .qui), (3, .qui), (4, .qui), (5, .qui), (6, .qui), (7, .qui), (8, .qui), (9, .qui), (10, .qui), (11, .qui), (12, .qui), (13, .qui), (14, .qui), (15, .qui), (16, .qui), (17, .qui), (18, .qui), (19, .qui), (20, .chn), (21, .qui), (22, .qui)] [(0, .qui), (1, .qui), (2, .qui), (3, .qui), (4, .qui), (5, .qui), (6, .qui), (7, .qui), (8, .qui), (9, .qui), (10, .qui), (11, .qui), (12, .qui), (13, .qui), (14, .qui), (15, .qui), (16, .qui), (17, .qui), (18, .qui), (19, .qui), (20, .chn), (21, .qui), (22, .qui)] Try_mixed (by as_aux_lemma => kernel_rfl) (by as_aux_lemma => kernel_rfl) (by as_aux_lemma => kernel_rfl) ?_
        have H := H.draw
        generalize ({ w37 with drawn := w37.drawn + 1 } : World) = w39 at H ⊢
        refine qP 2 [(2, .qui), (3, .qui), (4, .qui), (5, .qui), (6, .qui), (7, .qui), (8, .qui), (9, .qui), (10, .qui), (11, .qui), (12, .qui), (13, .qui), (14, .qui), (15, .qui), (16, .qui), (17, .qui), (18, .qui), (19, .qui), (20, .chn), (21, .qui), (22, .qui)] [(0, .slice a xs.length c), (1, .I k), (2, .I n), (3, .slice b ys.length d), (11, .P b32 0), (12, .slice a16 ((msgsOf (bW xs k n)).length) c17), (14, .slice ao (((pcs xs k n).take i).length) co), (15, .I i), (74, .slice a16 ((msgsOf (bW xs k n)).length) c17), (75, .I i)] ?_
        have hx40 : i < (msgsOf (bW xs k n)).length := by rw [bmsgs_len hkn]; omega
        refine qX .qui 76 [(3, .qui), (4, .qui), (5, .qui), (6, .qui), (7, .qui), (8, .qui), (9, .qui), (10, .qui), (11, .qui), (12, .qui), (13, .qui), (14, .qui), (15, .qui), (16, .qui), (17, .qui), (18, .qui), (19, .qui), (20, .chn), (21, .qui), (22, .qui)] 33 57 (i : Int) msgS (prepOf (bW xs k n) i) H 4 rfl i (by omega) (bmsgs_all hkn (by omega)) ?_
        intro b41 o42 es43 hr44 H
        obtain ⟨a10q45, k10q45, cs11q45, cs12q45, a13q45, k13q45, a19q45, k19q45, rfl, hf46, hf47, hf48, hf49, hf50, hf51, hf52, hf53, hf54, hf55, hf56, hf57, hf58, hf59, hf60, hf61, hf62, hf63⟩ := msg_open hr44
        obtain ⟨a0q64, k0q64, a1q64, k1q64, rfl, hf65, hf66⟩ := conf_open hf55
        obtain ⟨cs0q67, rfl, hf68, hf69, hf70, hf71⟩ := hdr_open hf56
        obtain ⟨rfl, hf73, hf74, hf75⟩ := cid_open hf68
        have H := H.add (F := Rp (Shape.slice entS) [.slice a10q45 ((prepOf (bW xs k n) i).entries.length) k10q45] ((prepOf (bW xs k n) i).entries)) hf54
        have H := H.add (F := Rp (Shape.slice (Shape.int .i64)) [.slice a0q64 (((prepOf (bW xs k n) i).conf).voters.length) k0q64] (((prepOf (bW xs k n) i).conf).voters)) hf65
        have H := H.add (F := Rp (Shape.slice (Shape.int .i64)) [.slice a1q64 (((prepOf (bW xs k n) i).conf).learners.length) k1q64] (((prepOf (bW xs k n) i).conf).learners)) hf66
        have H := H.add (F := Rp SB [.slice a13q45 ((prepOf (bW xs k n) i).data.length) k13q45] ((prepOf (bW xs k n) i).data)) hf57
        have H := H.add (F := Rp (Shape.slice Shape.str) [.slice a19q45 ((prepOf (bW xs k n) i).names.length) k19q45] ((prepOf (bW xs k n) i).names)) hf63
        refine qP 1 [(4, .qui), (5, .qui), (6, .qui), (7, .qui), (8, .qui), (9, .qui), (10, .qui), (11, .qui), (12, .qui), (13, .qui), (14, .qui), (15, .qui), (16, .qui), (17, .qui), (18, .qui), (19, .qui), (20, .chn), (21, .qui), (22, .qui)] [(0, .slice a xs.length c), (1, .I k), (2, .I n), (3, .slice b ys.length d), (11, .P b32 0), (12, .slice a16 ((msgsOf (bW xs k n)).length) c17), (14, .slice ao (((pcs xs k n).take i).length) co), (15, .I i), (77, .pointer (some ⟨b41, o42 + 2, none⟩))] ?_
        refine qL .qui 78 [(5, .qui), (6, .qui), (7, .qui), (8, .qui), (9, .qui), (10, .qui), (11, .qui), (12, .qui), (13, .qui), (14, .qui), (15, .qui), (16, .qui), (17, .qui), (18, .qui), (19, .qui), (20, .chn), (21, .qui), (22, .qui)] 3 b41 (o42 + 2) 2 (.I ((prepOf (bW xs k n) i).to)) (H.fc 5 rfl) ?_
        refine qP 1 [(6, .qui), (7, .qui), (8, .qui), (9, .qui), (10, .qui), (11, .qui), (12, .qui), (13, .qui), (14, .qui), (15, .qui), (16, .qui), (17, .qui), (18, .qui), (19, .qui), (20, .chn), (21, .qui), (22, .qui)] [(0, .slice a xs.length c), (1, .I k), (2, .I n), (3, .slice b ys.length d), (11, .P b32 0), (12, .slice a16 ((msgsOf (bW xs k n)).length) c17), (14, .slice ao (((pcs xs k n).take i).length) co), (15, .I i), (78, .I ((prepOf (bW xs k n) i).to)), (79, .I i)] ?_
        refine qI .qui 80 [(7, .qui), (8, .qui), (9, .qui), (10, .qui), (11, .qui), (12, .qui), (13, .qui), (14, .qui), (15, .qui), (16, .qui), (17, .qui), (18, .qui), (19, .qui), (20, .chn), (21, .qui), (22, .qui)] ((i : Int) + 1) ?_
        refine qP 2 [(9, .qui), (10, .qui), (11, .qui), (12, .qui), (13, .qui), (14, .qui), (15, .qui), (16, .qui), (17, .qui), (18, .qui), (19, .qui), (20, .chn), (21, .qui), (22, .qui)] [(0, .slice a xs.length c), (1, .I k), (2, .I n), (3, .slice b ys.length d), (11, .P b32 0), (12, .slice a16 ((msgsOf (bW xs k n)).length) c17), (14, .slice ao (((pcs xs k n).take i).length) co), (15, .I i), (82, .bool (((prepOf (bW xs k n) i).to) != ((i : Int) + 1)))] ?_
        refine tN (fun b_ => [(0, .slice a xs.length c), (1, .I k), (2, .I n), (3, .slice b ys.length d), (11, .P b32 0), (12, .slice a16 ((msgsOf (bW xs k n)).length) c17), (14, .slice ao (((pcs xs k n).take i).length) co), (15, .I i), (82, .bool b_)]) ((prepOf (bW xs k n) i).to) ((i : Int) + 1) (fun h76 => ?_) (fun h76 => ?_)
        ·
         exact absurd (bprep_to (by omega)) h76
        ·
         refine qP 2 [(11, .qui), (12, .qui), (13, .qui), (14, .qui), (15, .qui), (16, .qui), (17, .qui), (18, .qui), (19, .qui), (20, .chn), (21, .qui), (22, .qui)] [(0, .slice a xs.length c), (1, .I k), (2, .I n), (3, .slice b ys.length d), (11, .P b32 0), (12, .slice a16 ((msgsOf (bW xs k n)).length) c17), (14, .slice ao (((pcs xs k n).take i).length) co), (15, .I i), (82, .bool false), (83, .slice a16 ((msgsOf (bW xs k n)).length) c17), (84, .I i)] ?_
         have hx77 : i < (msgsOf (bW xs k n)).length := by rw [bmsgs_len hkn]; omega
         refine qX .qui 85 [(12, .qui), (13, .qui), (14, .qui), (15, .qui), (16, .qui), (17, .qui), (18, .qui), (19, .qui), (20, .chn), (21, .qui), (22, .qui)] 33 57 (i : Int) msgS (prepOf (bW xs k n) i) H 10 rfl i (by omega) (bmsgs_all hkn (by omega)) ?_
         intro b78 o79 es80 hr81 H
         obtain ⟨a10q82, k10q82, cs11q82, cs12q82, a13q82, k13q82, a19q82, k19q82, rfl, hf83, hf84, hf85, hf86, hf87, hf88, hf89, hf90, hf91, hf92, hf93, hf94, hf95, hf96, hf97, hf98, hf99, hf100⟩ := msg_open hr81
         obtain ⟨a0q101, k0q101, a1q101, k1q101, rfl, hf102, hf103⟩ := conf_open hf92
         obtain ⟨cs0q104, rfl, hf105, hf106, hf107, hf108⟩ := hdr_open hf93
         obtain ⟨rfl, hf110, hf111, hf112⟩ := cid_open hf105
         have H := H.add (F := Rp (Shape.slice entS) [.slice a10q82 ((prepOf (bW xs k n) i).entries.length) k10q82] ((prepOf (bW xs k n) i).entries)) hf91
         have H := H.add (F := Rp (Shape.slice (Shape.int .i64)) [.slice a0q101 (((prepOf (bW xs k n) i).conf).voters.length) k0q101] (((prepOf (bW xs k n) i).conf).voters)) hf102
         have H := H.add (F := Rp (Shape.slice (Shape.int .i64)) [.slice a1q101 (((prepOf (bW xs k n) i).conf).learners.length) k1q101] (((prepOf (bW xs k n) i).conf).learners)) hf103
         have H := H.add (F := Rp SB [.slice a13q82 ((prepOf (bW xs k n) i).data.length) k13q82] ((prepOf (bW xs k n) i).data)) hf94
         have H := H.add (F := Rp (Shape.slice Shape.str) [.slice a19q82 ((prepOf (bW xs k n) i).names.length) k19q82] ((prepOf (bW xs k n) i).names)) hf100
         refine qP 1 [(13, .qui), (14, .qui), (15, .qui), (16, .qui), (17, .qui), (18, .qui), (19, .qui), (20, .chn), (21, .qui), (22, .qui)] [(0, .slice a xs.length c), (1, .I k), (2, .I n), (3, .slice b ys.length d), (11, .P b32 0), (12, .slice a16 ((msgsOf (bW xs k n)).length) c17), (14, .slice ao (((pcs xs k n).take i).length) co), (15, .I i), (82, .bool false), (86, .pointer (some ⟨b78, o79 + 13, none⟩))] ?_
         refine qL .qui 87 [(14, .qui), (15, .qui), (16, .qui), (17, .qui), (18, .qui), (19, .qui), (20, .chn), (21, .qui), (22, .qui)] 53 b78 (o79 + 13) 13 (.agg (hdrV ((prepOf (bW xs k n) i).head)).toArray) (H.fc 5 rfl) ?_
         refine qP 2 [(16, .qui), (17, .qui), (18, .qui), (19, .qui), (20, .chn), (21, .qui), (22, .qui)] [(0, .slice a xs.length c), (1, .I k), (2, .I n), (3, .slice b ys.length d), (11, .P b32 0), (12, .slice a16 ((msgsOf (bW xs k n)).length) c17), (14, .slice ao (((pcs xs k n).take i).length) co), (15, .I i), (82, .bool false), (87, .agg (hdrV ((prepOf (bW xs k n) i).head)).toArray), (88, .slice a16 ((msgsOf (bW xs k n)).length) c17), (89, .I i)] ?_
         have hx113 : i < (msgsOf (bW xs k n)).length := by rw [bmsgs_len hkn]; omega
         refine qX .qui 90 [(17, .qui), (18, .qui), (19, .qui), (20, .chn), (21, .qui), (22, .qui)] 33 57 (i : Int) msgS (prepOf (bW xs k n) i) H 16 rfl i (by omega) (bmsgs_all hkn (by omega)) ?_
         intro b114 o115 es116 hr117 H
         obtain ⟨a10q118, k10q118, cs11q118, cs12q118, a13q118, k13q118, a19q118, k19q118, rfl, hf119, hf120, hf121, hf122, hf123, hf124, hf125, hf126, hf127, hf128, hf129, hf130, hf131, hf132, hf133, hf134, hf135, hf136⟩ := msg_open hr117
         obtain ⟨a0q137, k0q137, a1q137, k1q137, rfl, hf138, hf139⟩ := conf_open hf128
         obtain ⟨cs0q140, rfl, hf141, hf142, hf143, hf144⟩ := hdr_open hf129
         obtain ⟨rfl, hf146, hf147, hf148⟩ := cid_open hf141
         have H := H.add (F := Rp (Shape.slice entS) [.slice a10q118 ((prepOf (bW xs k n) i).entries.length) k10q118] ((prepOf (bW xs k n) i).entries)) hf127
         have H := H.add (F := Rp (Shape.slice (Shape.int .i64)) [.slice a0q137 (((prepOf (bW xs k n) i).conf).voters.length) k0q137] (((prepOf (bW xs k n) i).conf).voters)) hf138
         have H := H.add (F := Rp (Shape.slice (Shape.int .i64)) [.slice a1q137 (((prepOf (bW xs k n) i).conf).learners.length) k1q137] (((prepOf (bW xs k n) i).conf).learners)) hf139
         have H := H.add (F := Rp SB [.slice a13q118 ((prepOf (bW xs k n) i).data.length) k13q118] ((prepOf (bW xs k n) i).data)) hf130
         have H := H.add (F := Rp (Shape.slice Shape.str) [.slice a19q118 ((prepOf (bW xs k n) i).names.length) k19q118] ((prepOf (bW xs k n) i).names)) hf136
         refine qP 1 [(18, .qui), (19, .qui), (20, .chn), (21, .qui), (22, .qui)] [(0, .slice a xs.length c), (1, .I k), (2, .I n), (3, .slice b ys.length d), (11, .P b32 0), (12, .slice a16 ((msgsOf (bW xs k n)).length) c17), (14, .slice ao (((pcs xs k n).take i).length) co), (15, .I i), (82, .bool false), (87, .agg (hdrV ((prepOf (bW xs k n) i).head)).toArray), (91, .pointer (some ⟨b114, o115 + 20, none⟩))] ?_
         refine qL .qui 92 [(19, .qui), (20, .chn), (21, .qui), (22, .qui)] 23 b114 (o115 + 20) 20 (.slice a13q118 ((prepOf (bW xs k n) i).data.length) k13q118) (H.fc 5 rfl) ?_
         refine qP 1 [(20, .chn), (21, .qui), (22, .qui)] [(0, .slice a xs.length c), (1, .I k), (2, .I n), (3, .slice b ys.length d), (11, .P b32 0), (12, .slice a16 ((msgsOf (bW xs k n)).length) c17), (14, .slice ao (((pcs xs k n).take i).length) co), (15, .I i), (82, .bool false), (93, .agg #[.int .u64 ((((prepOf (bW xs k n) i).head).id).version), .I ((((prepOf (bW xs k n) i).head).id).index), .int .u64 ((((prepOf (bW xs k n) i).head).id).epoch), .I (((prepOf (bW xs k n) i).head).kk), .I (((prepOf (bW xs k n) i).head).nn), .I (((prepOf (bW xs k n) i).head).size), .int .u32 (((((prepOf (bW xs k n) i).head).sum).toNat : Nat) : Int), .slice a13q118 ((prepOf (bW xs k n) i).data.length) k13q118, .bool false])] ?_
         refine qK .chn (some 94) (qs [21, 22]) 43 #[.agg #[.int .u64 ((((prepOf (bW xs k n) i).head).id).version), .I ((((prepOf (bW xs k n) i).head).id).index), .int .u64 ((((prepOf (bW xs k n) i).head).id).epoch), .I (((prepOf (bW xs k n) i).head).kk), .I (((prepOf (bW xs k n) i).head).nn), .I (((prepOf (bW xs k n) i).head).size), .int .u32 (((((prepOf (bW xs k n) i).head).sum).toNat : Nat) : Int), .slice a13q118 ((prepOf (bW xs k n) i).data.length) k13q118, .bool false]] (whole_spec (C := ⟨⟨(((prepOf (bW xs k n) i).head).id), ((prepOf (bW xs k n) i).head).kk, ((prepOf (bW xs k n) i).head).nn, ((prepOf (bW xs k n) i).head).size, ((prepOf (bW xs k n) i).head).sum⟩, (prepOf (bW xs k n) i).data, false⟩) (chk_mk (hdr_mk (cid_mk u64a i64a u64a) i64a i64a i64a Shape.bv_mk) (H.rp 1 rfl) Shape.bool_mk)) ?_
         rintro _ w149 hE150 rfl
         have H := H.ext hE150
         refine qF 2 [(0, .slice a xs.length c), (1, .I k), (2, .I n), (3, .slice b ys.length d), (11, .P b32 0), (12, .slice a16 ((msgsOf (bW xs k n)).length) c17), (14, .slice ao (((pcs xs k n).take i).length) co), (15, .I i), (96, .bool ((wholeE (⟨(((prepOf (bW xs k n) i).head).id), ((prepOf (bW xs k n) i).head).kk, ((prepOf (bW xs k n) i).head).nn, ((prepOf (bW xs k n) i).head).size, ((prepOf (bW xs k n) i).head).sum⟩) ((prepOf (bW xs k n) i).data)) != 0))] ?_
         refine qN (wholeE (⟨(((prepOf (bW xs k n) i).head).id), ((prepOf (bW xs k n) i).head).kk, ((prepOf (bW xs k n) i).head).nn, ((prepOf (bW xs k n) i).head).size, ((prepOf (bW xs k n) i).head).sum⟩) ((prepOf (bW xs k n) i).data)) 0 (fun h152 => ?_) (fun h152 => ?_)
         ·
          exact absurd hwh h152
         ·
          refine qR 1 [.c [7, 0, 1, 0, 0, 1, 0, 0, 1], .b 3, .c [7, 0, 1, 0, 0, 2], .l [7, 0, 1, 0, 0], .b 2, .c [8]] [(0, .slice a xs.length c), (1, .I k), (2, .I n), (3, .slice b ys.length d), (11, .P b32 0), (12, .slice a16 ((msgsOf (bW xs k n)).length) c17), (14, .slice ao (((pcs xs k n).take i).length) co), (15, .I i)] ?_
          have H := H.pick [18, 19, 20, 21, 22, 23, 24, 25] rfl
          refine qG (sq 0 11) ?_
          refine qP 4 (sq 4 11) [(0, .slice a xs.length c), (1, .I k), (2, .I n), (3, .slice b ys.length d), (11, .P b32 0), (12, .slice a16 ((msgsOf (bW xs k n)).length) c17), (14, .slice ao (((pcs xs k n).take i).length) co), (15, .I i), (97, .slice ao (((pcs xs k n).take i).length) co), (98, .I i), (99, .slice a16 ((msgsOf (bW xs k n)).length) c17), (100, .I i)] ?_
          have hx153 : i < (msgsOf (bW xs k n)).length := by rw [bmsgs_len hkn]; omega
          refine qX .seq 101 (sq 5 11) 33 57 (i : Int) msgS (prepOf (bW xs k n) i) H 4 rfl i (by omega) (bmsgs_all hkn (by omega)) ?_
          intro b154 o155 es156 hr157 H
          obtain ⟨a10q158, k10q158, cs11q158, cs12q158, a13q158, k13q158, a19q158, k19q158, rfl, hf159, hf160, hf161, hf162, hf163, hf164, hf165, hf166, hf167, hf168, hf169, hf170, hf171, hf172, hf173, hf174, hf175, hf176⟩ := msg_open hr157
          obtain ⟨a0q177, k0q177, a1q177, k1q177, rfl, hf178, hf179⟩ := conf_open hf168
          obtain ⟨cs0q180, rfl, hf181, hf182, hf183, hf184⟩ := hdr_open hf169
          obtain ⟨rfl, hf186, hf187, hf188⟩ := cid_open hf181
          have H := H.add (F := Rp (Shape.slice entS) [.slice a10q158 ((prepOf (bW xs k n) i).entries.length) k10q158] ((prepOf (bW xs k n) i).entries)) hf167
          have H := H.add (F := Rp (Shape.slice (Shape.int .i64)) [.slice a0q177 (((prepOf (bW xs k n) i).conf).voters.length) k0q177] (((prepOf (bW xs k n) i).conf).voters)) hf178
          have H := H.add (F := Rp (Shape.slice (Shape.int .i64)) [.slice a1q177 (((prepOf (bW xs k n) i).conf).learners.length) k1q177] (((prepOf (bW xs k n) i).conf).learners)) hf179
          have H := H.add (F := Rp SB [.slice a13q158 ((prepOf (bW xs k n) i).data.length) k13q158] ((prepOf (bW xs k n) i).data)) hf170
          have H := H.add (F := Rp (Shape.slice Shape.str) [.slice a19q158 ((prepOf (bW xs k n) i).names.length) k19q158] ((prepOf (bW xs k n) i).names)) hf176
          refine qP 1 (sq 6 11) [(0, .slice a xs.length c), (1, .I k), (2, .I n), (3, .slice b ys.length d), (11, .P b32 0), (12, .slice a16 ((msgsOf (bW xs k n)).length) c17), (14, .slice ao (((pcs xs k n).take i).length) co), (15, .I i), (97, .slice ao (((pcs xs k n).take i).length) co), (98, .I i), (102, .pointer (some ⟨b154, o155 + 20, none⟩))] ?_
          refine qL .seq 103 (sq 7 11) 23 b154 (o155 + 20) 20 (.slice a13q158 ((prepOf (bW xs k n) i).data.length) k13q158) (H.fc 5 rfl) ?_
          refine qP 1 (sq 8 11) [(0, .slice a xs.length c), (1, .I k), (2, .I n), (3, .slice b ys.length d), (11, .P b32 0), (12, .slice a16 ((msgsOf (bW xs k n)).length) c17), (14, .slice ao (((pcs xs k n).take i).length) co), (15, .I i), (97, .slice ao (((pcs xs k n).take i).length) co), (104, .agg #[.I i, .slice a13q158 ((prepOf (bW xs k n) i).data.length) k13q158])] ?_
          refine RW.new (κ := .seq) (d := some 105) (r := (sq 9 11)) (o := .cells #[.I i, .slice a13q158 ((prepOf (bW xs k n) i).data.length) k13q158] 72 (0, 0)) (v := fun b => .slice (some ⟨b, 0, none⟩) 1 1) (fun b => by as_aux_lemma => kernel_rfl) (nofun) H ?_
          intro b189 w190 H
          have H := H.freeze 0 rfl pcS ([⟨(i : Int), (prepOf (bW xs k n) i).data⟩] : List Pc) 1 (by simp [maxLen]) (by first | exact Nat.le_refl _ | simp) (EsP.cons (c := [.I i, .slice a13q158 ((prepOf (bW xs k n) i).data.length) k13q158]) (pc_mk i64a (H.rp 1 rfl)) EsP.nil)
          have H : Hp w S [] [(b32, .cells (wrV (bW xs k n) a3q21 k3q21 a4q21 k4q21 a5q21 k5q21 a6q21 k6q21).toArray 32 (0, 0))] [⟨pcS, 72, .slice ao (((pcs xs k n).take i).length) co, (pcs xs k n).take i⟩] [Rp (Shape.slice pcS) [.slice (some ⟨b189, 0, none⟩) 1 1] ([⟨(i : Int), (prepOf (bW xs k n) i).data⟩] : List Pc), Rp (Shape.slice Shape.str) [.slice a19q158 ((prepOf (bW xs k n) i).names.length) k19q158] ((prepOf (bW xs k n) i).names), Rp SB [.slice a13q158 ((prepOf (bW xs k n) i).data.length) k13q158] ((prepOf (bW xs k n) i).data), Rp (Shape.slice (Shape.int .i64)) [.slice a1q177 (((prepOf (bW xs k n) i).conf).learners.length) k1q177] (((prepOf (bW xs k n) i).conf).learners), Rp (Shape.slice (Shape.int .i64)) [.slice a0q177 (((prepOf (bW xs k n) i).conf).voters.length) k0q177] (((prepOf (bW xs k n) i).conf).voters), Rp (Shape.slice entS) [.slice a10q158 ((prepOf (bW xs k n) i).entries.length) k10q158] ((prepOf (bW xs k n) i).entries), Fc b154 o155 (msgV (prepOf (bW xs k n) i) a10q158 k10q158 a0q177 k0q177 a1q177 k1q177 a13q158 k13q158 a19q158 k19q158), Rp (Shape.slice (Shape.int .i64)) [.slice a6q21 ((bW xs k n).acks.length) k6q21] ((bW xs k n).acks), Rp (Shape.slice (Shape.int .i64)) [.slice a5q21 ((bW xs k n).nodes.length) k5q21] ((bW xs k n).nodes), Rp (Shape.slice SB) [.slice a4q21 ((bW xs k n).chunks.length) k4q21] ((bW xs k n).chunks), Rp (Shape.slice hdrS) [.slice a3q21 ((bW xs k n).heads.length) k3q21] ((bW xs k n).heads), Rp (Shape.slice msgS) [.slice a16 ((msgsOf (bW xs k n)).length) c17] (msgsOf (bW xs k n)), Rp (Shape.slice (Shape.int .i64)) [.slice na (nodesA n).length nc] (nodesA n), Rp SB [.slice a xs.length c] xs, Rp (Shape.slice (Shape.int .i64)) [.slice b ys.length d] ys] _ := H
          refine RW.appendW (d := some 106) (r := (sq 10 11)) (T := 70) (ty := 70) (e := 72) (m := 2) (by_ := 32) (v := .slice ao (((pcs xs k n).take i).length) co) (a2 := (some ⟨b189, 0, none⟩)) (l2 := 1) (c2 := 1) (zs := (pcs xs k n).take (i + 1)) (by as_aux_lemma => kernel_rfl) (by as_aux_lemma => kernel_rfl) rfl H 0 rfl 0 rfl (by rw [bprep_data hkn (by omega)]; exact pcs_snoc (by omega)) (by rw [List.length_take, pcs_len]; omega) ?_
          intro a191 c192 w194 H hc193
          have H : Hp w S [] [(b32, .cells (wrV (bW xs k n) a3q21 k3q21 a4q21 k4q21 a5q21 k5q21 a6q21 k6q21).toArray 32 (0, 0))] [⟨pcS, 72, .slice a191 (((pcs xs k n).take (i + 1)).length) c192, (pcs xs k n).take (i + 1)⟩] [Rp (Shape.slice pcS) [.slice (some ⟨b189, 0, none⟩) 1 1] ([⟨(i : Int), (prepOf (bW xs k n) i).data⟩] : List Pc), Rp (Shape.slice Shape.str) [.slice a19q158 ((prepOf (bW xs k n) i).names.length) k19q158] ((prepOf (bW xs k n) i).names), Rp SB [.slice a13q158 ((prepOf (bW xs k n) i).data.length) k13q158] ((prepOf (bW xs k n) i).data), Rp (Shape.slice (Shape.int .i64)) [.slice a1q177 (((prepOf (bW xs k n) i).conf).learners.length) k1q177] (((prepOf (bW xs k n) i).conf).learners), Rp (Shape.slice (Shape.int .i64)) [.slice a0q177 (((prepOf (bW xs k n) i).conf).voters.length) k0q177] (((prepOf (bW xs k n) i).conf).voters), Rp (Shape.slice entS) [.slice a10q158 ((prepOf (bW xs k n) i).entries.length) k10q158] ((prepOf (bW xs k n) i).entries), Fc b154 o155 (msgV (prepOf (bW xs k n) i) a10q158 k10q158 a0q177 k0q177 a1q177 k1q177 a13q158 k13q158 a19q158 k19q158), Rp (Shape.slice (Shape.int .i64)) [.slice a6q21 ((bW xs k n).acks.length) k6q21] ((bW xs k n).acks), Rp (Shape.slice (Shape.int .i64)) [.slice a5q21 ((bW xs k n).nodes.length) k5q21] ((bW xs k n).nodes), Rp (Shape.slice SB) [.slice a4q21 ((bW xs k n).chunks.length) k4q21] ((bW xs k n).chunks), Rp (Shape.slice hdrS) [.slice a3q21 ((bW xs k n).heads.length) k3q21] ((bW xs k n).heads), Rp (Shape.slice msgS) [.slice a16 ((msgsOf (bW xs k n)).length) c17] (msgsOf (bW xs k n)), Rp (Shape.slice (Shape.int .i64)) [.slice na (nodesA n).length nc] (nodesA n), Rp SB [.slice a xs.length c] xs, Rp (Shape.slice (Shape.int .i64)) [.slice b ys.length d] ys] _ := H
          refine qF 1 [(0, .slice a xs.length c), (1, .I k), (2, .I n), (3, .slice b ys.length d), (11, .P b32 0), (12, .slice a16 ((msgsOf (bW xs k n)).length) c17), (14, .slice a191 (((pcs xs k n).take (i + 1)).length) c192), (15, .I i)] ?_
          refine qR 1 [.c [7, 0, 1, 0, 0, 2], .l [7, 0, 1, 0, 0], .b 2, .c [8]] [(0, .slice a xs.length c), (1, .I k), (2, .I n), (3, .slice b ys.length d), (11, .P b32 0), (12, .slice a16 ((msgsOf (bW xs k n)).length) c17), (14, .slice a191 (((pcs xs k n).take (i + 1)).length) c192), (15, .I i)] ?_
          have H := H.pick [7, 8, 9, 10, 11, 12, 13, 14] rfl
          refine qG (sq 0 3) ?_
          refine qP 1 (sq 1 3) [(0, .slice a xs.length c), (1, .I k), (2, .I n), (3, .slice b ys.length d), (11, .P b32 0), (12, .slice a16 ((msgsOf (bW xs k n)).length) c17), (14, .slice a191 (((pcs xs k n).take (i + 1)).length) c192), (15, .I i), (72, .I i)] ?_
          refine qI .seq 73 (sq 2 3) ((i : Int) + 1) ?_
          refine qF 1 [(0, .slice a xs.length c), (1, .I k), (2, .I n), (3, .slice b ys.length d), (11, .P b32 0), (12, .slice a16 ((msgsOf (bW xs k n)).length) c17), (14, .slice a191 (((pcs xs k n).take (i + 1)).length) c192), (15, .I ((i : Int) + 1))] ?_
          exact WK.back (hback36 (i + 1, a191, c192) _ ⟨H, by omega⟩ (by first | omega | (simp only []; omega))) (by as_aux_lemma => kernel_rfl)
       ·
        have hpl := pcs_len xs k n
        have hie : (pcs xs k n).take i = (pcs xs k n) := List.take_of_length_le (by rw [pcs_len]; omega)
        rw [hie] at H ⊢
        have H : Hp w S [] [(b32, .cells (wrV (bW xs k n) a3q21 k3q21 a4q21 k4q21 a5q21 k5q21 a6q21 k6q21).toArray 32 (0, 0))] [⟨pcS, 72, .slice ao (pcs xs k n).length co, (pcs xs k n)⟩] [Rp (Shape.slice (Shape.int .i64)) [.slice a6q21 ((bW xs k n).acks.length) k6q21] ((bW xs k n).acks), Rp (Shape.slice (Shape.int .i64)) [.slice a5q21 ((bW xs k n).nodes.length) k5q21] ((bW xs k n).nodes), Rp (Shape.slice SB) [.slice a4q21 ((bW xs k n).chunks.length) k4q21] ((bW xs k n).chunks), Rp (Shape.slice hdrS) [.slice a3q21 ((bW xs k n).heads.length) k3q21] ((bW xs k n).heads), Rp (Shape.slice msgS) [.slice a16 ((msgsOf (bW xs k n)).length) c17] (msgsOf (bW xs k n)), Rp (Shape.slice (Shape.int .i64)) [.slice na (nodesA n).length nc] (nodesA n), Rp SB [.slice a xs.length c] xs, Rp (Shape.slice (Shape.int .i64)) [.slice b ys.length d] ys] _ := H
        refine qR 2 [.c [8, 0], .c [9]] [(0, .slice a xs.length c), (1, .I k), (2, .I n), (3, .slice b ys.length d), (11, .P b32 0), (12, .slice a16 ((msgsOf (bW xs k n)).length) c17), (14, .slice ao (pcs xs k n).length co)] ?_
        refine qG (sq 0 15) ?_
        refine qP 3 (sq 3 15) [(0, .slice a xs.length c), (1, .I k), (2, .I n), (3, .slice b ys.length d), (11, .P b32 0), (12, .slice a16 ((msgsOf (bW xs k n)).length) c17), (108, .slice ao (pcs xs k n).length co), (109, .I n), (110, .I k)] ?_
        refine qI .seq 111 (sq 4 15) ((n : Int) - (k : Int)) ?_
        have H : Hp w S [] [(b32, .cells (wrV (bW xs k n) a3q21 k3q21 a4q21 k4q21 a5q21 k5q21 a6q21 k6q21).toArray 32 (0, 0))] [] [Rp (Shape.slice pcS) [.slice ao (pcs xs k n).length co] (pcs xs k n), Rp (Shape.slice (Shape.int .i64)) [.slice a6q21 ((bW xs k n).acks.length) k6q21] ((bW xs k n).acks), Rp (Shape.slice (Shape.int .i64)) [.slice a5q21 ((bW xs k n).nodes.length) k5q21] ((bW xs k n).nodes), Rp (Shape.slice SB) [.slice a4q21 ((bW xs k n).chunks.length) k4q21] ((bW xs k n).chunks), Rp (Shape.slice hdrS) [.slice a3q21 ((bW xs k n).heads.length) k3q21] ((bW xs k n).heads), Rp (Shape.slice msgS) [.slice a16 ((msgsOf (bW xs k n)).length) c17] (msgsOf (bW xs k n)), Rp (Shape.slice (Shape.int .i64)) [.slice na (nodesA n).length nc] (nodesA n), Rp SB [.slice a xs.length c] xs, Rp (Shape.slice (Shape.int .i64)) [.slice b ys.length d] ys] _ := H.freezeW 0 rfl
        refine RW.slice (κ := .seq) (d := some 112) (r := (sq 5 15)) (T := 70) (e := 72) (sh := pcS) (a := ao) (len := (pcs xs k n).length) (cap := co) (zs := ((pcs xs k n).drop (n - k))) (lv := (some (.I ((n : Int) - (k : Int))))) (hv := none) (by as_aux_lemma => kernel_rfl) (by as_aux_lemma => kernel_rfl) H 0 rfl (n - k) (pcs xs k n).length (.mk (by omega)) .nil (by omega) (by omega) (by rw [List.take_of_length_le (Nat.le_refl _)]) ?_
        intro a195 H
        refine qP 4 (sq 9 15) [(0, .slice a xs.length c), (2, .I n), (3, .slice b ys.length d), (11, .P b32 0), (12, .slice a16 ((msgsOf (bW xs k n)).length) c17), (112, .slice a195 (((pcs xs k n).drop (n - k)).length) (co - (n - k))), (114, .I ((xs.length : Nat) : Int)), (115, .I k), (116, .I n)] ?_
        have hof := (pcs_of (xs := xs) (k := k) (n := n)).drop (n - k)
        have hlk197 : k ≤ (((pcs xs k n).drop (n - k))).length := by rw [List.length_drop, pcs_len]; omega
        refine qK .seq (some 117) (sq 10 15) 31 #[.slice a195 (((pcs xs k n).drop (n - k)).length) (co - (n - k)), .I ((xs.length : Nat) : Int), .I k, .I n] (decode_ok (S := Av S w [] (idsOf [(b32, .cells (wrV (bW xs k n) a3q21 k3q21 a4q21 k4q21 a5q21 k5q21 a6q21 k6q21).toArray 32 (0, 0))] [])) (ps := ((pcs xs k n).drop (n - k))) (H.rp 0 rfl) (size := xs.length) (k := k) (n := n) (by omega) hk hkn (by omega) (hof.ok hk hkn) hlk197 (any_reg hlk197 hkn (by omega) (hof.ok hk hkn))) ?_
        rintro _ w196 hE200 ⟨a198, c199, ys202, rfl, hys203, hord204, hr201⟩
        rw [objL_of (hof.perm hys203) hk (by rw [hys203.length_eq]; exact hlk197) hkn (by omega)] at hr201 ⊢
        have H := H.addN hE200 (F := Rp SB [.slice a198 xs.length c199] xs) hr201
        refine qF 5 [(0, .slice a xs.length c), (2, .I n), (3, .slice b ys.length d), (11, .P b32 0), (12, .slice a16 ((msgsOf (bW xs k n)).length) c17), (16, .slice a198 xs.length c199), (17, .I 0)] ?_
        refine qR 2 [.c [9, 0, 0], .c [9, 0, 1], .c [10]] [(0, .slice a xs.length c), (2, .I n), (3, .slice b ys.length d), (11, .P b32 0), (12, .slice a16 ((msgsOf (bW xs k n)).length) c17), (16, .slice a198 xs.length c199), (17, .I 0)] ?_
        have H := H.pick [0, 2, 3, 4, 5, 6, 7, 8, 9, 10] rfl
        refine qG (sq 0 9) ?_
        refine qP 4 (sq 4 9) [(0, .slice a xs.length c), (2, .I n), (3, .slice b ys.length d), (11, .P b32 0), (12, .slice a16 ((msgsOf (bW xs k n)).length) c17), (122, .bool false), (123, .slice a198 xs.length c199)] ?_
        refine RW.toStr (κ := .seq) (d := some 124) (r := (sq 5 9)) (Ts := 23) (Td := 9) 5 (a := a198) (len := xs.length) (cap := c199) (xs := xs) (by as_aux_lemma => kernel_rfl) (by as_aux_lemma => kernel_rfl) (H.rp 0 rfl) ?_
        refine qP 1 (sq 6 9) [(2, .I n), (3, .slice b ys.length d), (11, .P b32 0), (12, .slice a16 ((msgsOf (bW xs k n)).length) c17), (122, .bool false), (124, .string (strOf xs)), (125, .slice a xs.length c)] ?_
        refine RW.toStr (κ := .seq) (d := some 126) (r := (sq 7 9)) (Ts := 23) (Td := 9) 5 (a := a) (len := xs.length) (cap := c) (xs := xs) (by as_aux_lemma => kernel_rfl) (by as_aux_lemma => kernel_rfl) (H.rp 8 rfl) ?_
        refine qF 2 [(2, .I n), (3, .slice b ys.length d), (11, .P b32 0), (12, .slice a16 ((msgsOf (bW xs k n)).length) c17), (128, .bool (!((strOf xs).toList == (strOf xs).toList)))] ?_
        refine qC (!((strOf xs).toList == (strOf xs).toList)) (fun h205 => ?_) (fun h205 => ?_)
        ·
         replace h205 : ((strOf xs).toList == (strOf xs).toList) = false := by revert h205; cases ((strOf xs).toList == (strOf xs).toList) <;> simp
         replace h205 := ne_of_beq_false h205
         exact absurd rfl h205
        ·
         replace h205 : ((strOf xs).toList == (strOf xs).toList) = true := by revert h205; cases ((strOf xs).toList == (strOf xs).toList) <;> simp
         replace h205 := eq_of_beq h205
         refine qR 7 [.c [11, 0, 1, 0], .b 4, .c [12]] [(2, .I n), (3, .slice b ys.length d), (11, .P b32 0), (12, .slice a16 ((msgsOf (bW xs k n)).length) c17), (18, .slice none 0 0), (19, .I 0)] ?_
         have H := H.ownNil (Shape.int .i64) 3
         have H : Hp w S [] [(b32, .cells (wrV (bW xs k n) a3q21 k3q21 a4q21 k4q21 a5q21 k5q21 a6q21 k6q21).toArray 32 (0, 0))] [⟨Shape.int .i64, 3, .slice none ([] : List Int).length 0, ([] : List Int)⟩] [Rp SB [.slice a198 xs.length c199] xs, Rp (Shape.slice pcS) [.slice ao (pcs xs k n).length co] (pcs xs k n), Rp (Shape.slice (Shape.int .i64)) [.slice a6q21 ((bW xs k n).acks.length) k6q21] ((bW xs k n).acks), Rp (Shape.slice (Shape.int .i64)) [.slice a5q21 ((bW xs k n).nodes.length) k5q21] ((bW xs k n).nodes), Rp (Shape.slice SB) [.slice a4q21 ((bW xs k n).chunks.length) k4q21] ((bW xs k n).chunks), Rp (Shape.slice hdrS) [.slice a3q21 ((bW xs k n).heads.length) k3q21] ((bW xs k n).heads), Rp (Shape.slice msgS) [.slice a16 ((msgsOf (bW xs k n)).length) c17] (msgsOf (bW xs k n)), Rp (Shape.slice (Shape.int .i64)) [.slice na (nodesA n).length nc] (nodesA n), Rp SB [.slice a xs.length c] xs, Rp (Shape.slice (Shape.int .i64)) [.slice b ys.length d] ys] w196 := H
         have H := H.pick [5, 4, 3, 2, 0, 1, 6, 7, 8, 9] (G' := [Rp (Shape.slice hdrS) [.slice a3q21 (bW xs k n).heads.length k3q21] (bW xs k n).heads, Rp (Shape.slice SB) [.slice a4q21 (bW xs k n).chunks.length k4q21] (bW xs k n).chunks, Rp (Shape.slice (Shape.int .i64)) [.slice a5q21 (bW xs k n).nodes.length k5q21] (bW xs k n).nodes, Rp (Shape.slice (Shape.int .i64)) [.slice a6q21 (bW xs k n).acks.length k6q21] (bW xs k n).acks, Rp SB [.slice a198 xs.length c199] xs, Rp (Shape.slice pcS) [.slice ao (pcs xs k n).length co] (pcs xs k n), Rp (Shape.slice msgS) [.slice a16 ((msgsOf (bW xs k n)).length) c17] (msgsOf (bW xs k n)), Rp (Shape.slice (Shape.int .i64)) [.slice na (nodesA n).length nc] (nodesA n), Rp SB [.slice a xs.length c] xs, Rp (Shape.slice (Shape.int .i64)) [.slice b ys.length d] ys]) rfl
         refine WK.loop (α := Nat × Wr × List Int × Option Addr × Nat × Option Addr × Nat × Option Addr × Nat × Option Addr × Nat × Option Addr × Nat) (b := cd Try.prog 12 [11, 0, 1, 0, 0]) (by as_aux_lemma => kernel_rfl) (fun st_ => match st_ with | (i, D, seen, a3q, k3q, a4q, k4q, a5q, k5q, a6q, k6q, sa, sc) => [(2, .I n), (3, .slice b ys.length d), (11, .P b32 0), (12, .slice a16 ((msgsOf (bW xs k n)).length) c17), (18, .slice sa seen.length sc), (19, .I i)]) (fun st_ w' => match st_ with | (i, D, seen, a3q, k3q, a4q, k4q, a5q, k5q, a6q, k6q, sa, sc) => Hp w S [] [(b32, .cells (wrV D a3q k3q a4q k4q a5q k5q a6q k6q).toArray 32 (0, 0))] [⟨Shape.int .i64, 3, .slice sa seen.length sc, seen⟩] [Rp (Shape.slice hdrS) [.slice a3q D.heads.length k3q] D.heads, Rp (Shape.slice SB) [.slice a4q D.chunks.length k4q] D.chunks, Rp (Shape.slice (Shape.int .i64)) [.slice a5q D.nodes.length k5q] D.nodes, Rp (Shape.slice (Shape.int .i64)) [.slice a6q D.acks.length k6q] D.acks, Rp SB [.slice a198 xs.length c199] xs, Rp (Shape.slice pcS) [.slice ao (pcs xs k n).length co] (pcs xs k n), Rp (Shape.slice msgS) [.slice a16 ((msgsOf (bW xs k n)).length) c17] (msgsOf (bW xs k n)), Rp (Shape.slice (Shape.int .i64)) [.slice na (nodesA n).length nc] (nodesA n), Rp SB [.slice a xs.length c] xs, Rp (Shape.slice (Shape.int .i64)) [.slice b ys.length d] ys] w' ∧ i ≤ ys.length ∧ D = bD xs k n seen ∧ seen.Nodup ∧ (∀ x ∈ seen, 0 ≤ x ∧ x < (n : Int))) (fun st_ => match st_ with | (i, D, seen, a3q, k3q, a4q, k4q, a5q, k5q, a6q, k6q, sa, sc) => ys.length - i) (0, bW xs k n, ([] : List Int), a3q21, k3q21, a4q21, k4q21, a5q21, k5q21, a6q21, k6q21, none, 0) ⟨H, by omega, bW_D (by omega), List.nodup_nil, fun x h => (by cases h)⟩ (rfl) ?_
         rintro ⟨i, D, seen, a3q, k3q, a4q, k4q, a5q, k5q, a6q, k6q, sa, sc⟩ w207 ⟨H, hinv2⟩ hback206
         obtain ⟨hi1, hDe, hsn, hsr⟩ := hinv2
         obtain ⟨hq1, hq2, hq3, hq4, hq5, hq6, hq8⟩ := bD_bd (xs := xs) (k := k) (n := n) (seen := seen)
         have hq7 := bD_heads (xs := xs) (seen := seen) hkn
         rw [← hDe] at hq1 hq2 hq3 hq4 hq5 hq6 hq7 hq8
         have hsl := seen_le hsn hsr
         refine qR 2 [.c [11, 0, 1, 0, 0, 0, 0], .c [11, 0, 1, 0, 0, 0, 1], .c [11, 0, 1, 0, 0, 1], .l [11, 0, 1, 0, 0], .b 4, .c [12]] [(2, .I n), (3, .slice b ys.length d), (11, .P b32 0), (12, .slice a16 ((msgsOf (bW xs k n)).length) c17), (18, .slice sa seen.length sc), (19, .I i)] ?_
         refine WK.join (fun b_ : Bool => b_ = decide ((i : Int) < ((ys.length : Nat) : Int) ∧ (i : Int) < 200)) (fun b_ => [(2, .I n), (3, .slice b ys.length d), (11, .P b32 0), (12, .slice a16 ((msgsOf (bW xs k n)).length) c17), (18, .slice sa seen.length sc), (19, .I i), (136, .bool b_)]) [Cq Try.prog 12 [11, 0, 1, 0, 0, 0, 1], Cq Try.prog 12 [11, 0, 1, 0, 0, 1], Lq Try.prog 12 [11, 0, 1, 0, 0], .inBlock 4, Cq Try.prog 12 [12]] (fun hJ208 => ?_) (fun bj209 hbj210 => ?_)
         ·
          refine qG (sq 0 8) ?_
          refine qP 5 (sq 5 8) [(2, .I n), (3, .slice b ys.length d), (11, .P b32 0), (12, .slice a16 ((msgsOf (bW xs k n)).length) c17), (18, .slice sa seen.length sc), (19, .I i), (133, .bool (decide (((i : Int) : Int) < ((ys.length : Nat) : Int))))] ?_
          refine tD (fun b_ => [(2, .I n), (3, .slice b ys.length d), (11, .P b32 0), (12, .slice a16 ((msgsOf (bW xs k n)).length) c17), (18, .slice sa seen.length sc), (19, .I i), (133, .bool b_)]) (((i : Int) : Int) < ((ys.length : Nat) : Int)) (fun h211 => ?_) (fun h211 => ?_)
          ·
           refine qF 3 [(2, .I n), (3, .slice b ys.length d), (11, .P b32 0), (12, .slice a16 ((msgsOf (bW xs k n)).length) c17), (18, .slice sa seen.length sc), (19, .I i), (136, .bool (decide (((i : Int) : Int) < 200)))] ?_
           exact hJ208 (decide (((i : Int) : Int) < 200)) (decide_eq_decide.2 (by constructor <;> intro _ <;> omega))
          ·
           refine qF 3 [(2, .I n), (3, .slice b ys.length d), (11, .P b32 0), (12, .slice a16 ((msgsOf (bW xs k n)).length) c17), (18, .slice sa seen.length sc), (19, .I i), (136, .bool false)] ?_
           exact hJ208 false ((decide_eq_false (by omega)).symm)
         ·
          refine qC bj209 (fun h212 => ?_) (fun h212 => ?_)
          ·
           rw [hbj210] at h212
           replace h212 := of_decide_eq_true h212
           refine qR 4 [.c [11, 0, 1, 0, 0, 1, 0, 0, 0], .c [11, 0, 1, 0, 0, 1, 0, 0, 1], .b 5, .c [11, 0, 1, 0, 0, 2], .l [11, 0, 1, 0, 0], .b 4, .c [12]] [(2, .I n), (3, .slice b ys.length d), (11, .P b32 0), (12, .slice a16 ((msgsOf (bW xs k n)).length) c17), (18, .slice sa seen.length sc), (19, .I i)] ?_
           refine qG (sq 0 5) ?_
           refine qP 2 (sq 2 5) [(2, .I n), (3, .slice b ys.length d), (11, .P b32 0), (12, .slice a16 ((msgsOf (bW xs k n)).length) c17), (18, .slice sa seen.length sc), (19, .I i), (139, .slice b ys.length d), (140, .I i)] ?_
           have hx213 : i < ys.length := by omega
           refine qX .seq 141 (sq 3 5) 25 3 (i : Int) (Shape.int .i64) (ys[i]) H 9 rfl i (by omega) (List.getElem?_eq_getElem hx213) ?_
           intro b214 o215 es216 hr217 H
           have hb218 := Shape.i64_bd hr217
           obtain ⟨rfl, -⟩ := hr217
           refine qL .seq 142 (sq 4 5) 3 b214 o215 0 (.I (ys[i])) (H.fc 0 rfl) ?_
           refine qF 1 [(2, .I n), (3, .slice b ys.length d), (11, .P b32 0), (12, .slice a16 ((msgsOf (bW xs k n)).length) c17), (18, .slice sa seen.length sc), (19, .I i), (20, .I (ys[i]))] ?_
           refine qR 5 [.c [11, 0, 1, 0, 0, 1, 0, 0, 2, 0, 1], .c [11, 0, 1, 0, 0, 1, 0, 0, 3], .b 5, .c [11, 0, 1, 0, 0, 2], .l [11, 0, 1, 0, 0], .b 4, .c [12]] [(2, .I n), (3, .slice b ys.length d), (11, .P b32 0), (12, .slice a16 ((msgsOf (bW xs k n)).length) c17), (18, .slice sa seen.length sc), (19, .I i), (20, .I (ys[i])), (21, .I 0), (144, .bool (decide ((ys[i] : Int) < 0)))] ?_
           refine WK.joinV (α := Int × Nat) (fun x_ w_ => match x_ with | (c0, fr) => Hp w S [] [(b32, .cells (wrV D a3q k3q a4q k4q a5q k5q a6q k6q).toArray 32 (0, 0))] [⟨Shape.int .i64, 3, .slice sa seen.length sc, seen⟩] [Rp (Shape.slice hdrS) [.slice a3q D.heads.length k3q] D.heads, Rp (Shape.slice SB) [.slice a4q D.chunks.length k4q] D.chunks, Rp (Shape.slice (Shape.int .i64)) [.slice a5q D.nodes.length k5q] D.nodes, Rp (Shape.slice (Shape.int .i64)) [.slice a6q D.acks.length k6q] D.acks, Rp SB [.slice a198 xs.length c199] xs, Rp (Shape.slice pcS) [.slice ao (pcs xs k n).length co] (pcs xs k n), Rp (Shape.slice msgS) [.slice a16 ((msgsOf (bW xs k n)).length) c17] (msgsOf (bW xs k n)), Rp (Shape.slice (Shape.int .i64)) [.slice na (nodesA n).length nc] (nodesA n), Rp SB [.slice a xs.length c] xs, Rp (Shape.slice (Shape.int .i64)) [.slice b ys.length d] ys] w_ ∧ 0 ≤ c0 ∧ c0 ≤ 9223372036854775807 ∧ fr ≤ 1) (fun x_ => match x_ with | (c0, fr) => [(2, .I n), (3, .slice b ys.length d), (11, .P b32 0), (12, .slice a16 ((msgsOf (bW xs k n)).length) c17), (18, .slice sa seen.length sc), (19, .I i), (20, .I c0), (21, .I fr)]) [Cq Try.prog 12 [11, 0, 1, 0, 0, 1, 0, 0, 3], .inBlock 5, Cq Try.prog 12 [11, 0, 1, 0, 0, 2], Lq Try.prog 12 [11, 0, 1, 0, 0], .inBlock 4, Cq Try.prog 12 [12]] (fun hJ219 => ?_) ?_
           ·
            refine qD ((ys[i] : Int) < 0) (fun h221 => ?_) (fun h221 => ?_)
            ·
             refine qR 1 [.c [11, 0, 1, 0, 0, 1, 0, 0, 2, 0, 1, 0, 0], .c [11, 0, 1, 0, 0, 1, 0, 0, 2, 0, 1, 0, 1], .c [11, 0, 1, 0, 0, 1, 0, 0, 3], .b 5, .c [11, 0, 1, 0, 0, 2], .l [11, 0, 1, 0, 0], .b 4, .c [12]] [(2, .I n), (3, .slice b ys.length d), (11, .P b32 0), (12, .slice a16 ((msgsOf (bW xs k n)).length) c17), (18, .slice sa seen.length sc), (19, .I i), (20, .I (ys[i]))] ?_
             have H := H.pick [1, 2, 3, 4, 5, 6, 7, 8, 9, 10] rfl
             refine qG (sq 0 3) ?_
             refine qP 1 (sq 1 3) [(2, .I n), (3, .slice b ys.length d), (11, .P b32 0), (12, .slice a16 ((msgsOf (bW xs k n)).length) c17), (18, .slice sa seen.length sc), (19, .I i), (20, .I (ys[i])), (145, .I (ys[i]))] ?_
             refine qI .seq 146 (sq 2 3) ((-1) - (ys[i])) ?_
             refine qF 1 [(2, .I n), (3, .slice b ys.length d), (11, .P b32 0), (12, .slice a16 ((msgsOf (bW xs k n)).length) c17), (18, .slice sa seen.length sc), (19, .I i), (20, .I ((-1) - (ys[i])))] ?_
             refine qR 1 [.c [11, 0, 1, 0, 0, 1, 0, 0, 3], .b 5, .c [11, 0, 1, 0, 0, 2], .l [11, 0, 1, 0, 0], .b 4, .c [12]] [(2, .I n), (3, .slice b ys.length d), (11, .P b32 0), (12, .slice a16 ((msgsOf (bW xs k n)).length) c17), (18, .slice sa seen.length sc), (19, .I i), (20, .I ((-1) - (ys[i]))), (21, .I 1)] ?_
             exact hJ219 ((-1) - (ys[i]), 1) _ ⟨H, by omega⟩
            ·
             refine qR 1 [.c [11, 0, 1, 0, 0, 1, 0, 0, 3], .b 5, .c [11, 0, 1, 0, 0, 2], .l [11, 0, 1, 0, 0], .b 4, .c [12]] [(2, .I n), (3, .slice b ys.length d), (11, .P b32 0), (12, .slice a16 ((msgsOf (bW xs k n)).length) c17), (18, .slice sa seen.length sc), (19, .I i), (20, .I (ys[i])), (21, .I 0)] ?_
             have H := H.pick [1, 2, 3, 4, 5, 6, 7, 8, 9, 10] (G' := [Rp (Shape.slice hdrS) [.slice a3q D.heads.length k3q] D.heads, Rp (Shape.slice SB) [.slice a4q D.chunks.length k4q] D.chunks, Rp (Shape.slice (Shape.int .i64)) [.slice a5q D.nodes.length k5q] D.nodes, Rp (Shape.slice (Shape.int .i64)) [.slice a6q D.acks.length k6q] D.acks, Rp SB [.slice a198 xs.length c199] xs, Rp (Shape.slice pcS) [.slice ao (pcs xs k n).length co] (pcs xs k n), Rp (Shape.slice msgS) [.slice a16 ((msgsOf (bW xs k n)).length) c17] (msgsOf (bW xs k n)), Rp (Shape.slice (Shape.int .i64)) [.slice na (nodesA n).length nc] (nodesA n), Rp SB [.slice a xs.length c] xs, Rp (Shape.slice (Shape.int .i64)) [.slice b ys.length d] ys]) rfl
             exact hJ219 (ys[i], 0) _ ⟨H, by omega⟩
           ·
            rintro ⟨c0, fr⟩ w220 ⟨H, hc0⟩
            have hcz := Int.emod_nonneg c0 (show (n : Int) ≠ 0 by omega)
            have hcl := Int.emod_lt_of_pos c0 (show (0 : Int) < (n : Int) by omega)
            obtain ⟨z, hz⟩ : ∃ z : Nat, c0 % (n : Int) = (z : Int) := ⟨(c0 % (n : Int)).toNat, by omega⟩
            have hcn : z < n := by omega
            refine qR 1 [.c [11, 0, 1, 0, 0, 1, 0, 0, 3, 0], .c [11, 0, 1, 0, 0, 1, 0, 0, 4], .b 5, .c [11, 0, 1, 0, 0, 2], .l [11, 0, 1, 0, 0], .b 4, .c [12]] [(2, .I n), (3, .slice b ys.length d), (11, .P b32 0), (12, .slice a16 ((msgsOf (bW xs k n)).length) c17), (18, .slice sa seen.length sc), (19, .I i), (20, .I c0), (21, .I fr)] ?_
            refine qG (sq 0 4) ?_
            refine qP 2 (sq 2 4) [(2, .I n), (3, .slice b ys.length d), (11, .P b32 0), (12, .slice a16 ((msgsOf (bW xs k n)).length) c17), (18, .slice sa seen.length sc), (19, .I i), (20, .I c0), (21, .I fr), (147, .I c0), (148, .I n)] ?_
            refine RW.readS (κ := .seq) (d := some 149) (r := (sq 3 4)) (s := semV (Op.intDiv .rem .i64 c0 (n : Int))) (v := .I z) (by as_aux_lemma => kernel_rfl) (fun w' _ => semV_run (rem_nat (r := z) (by omega) (by omega) (hz))) ?_
            refine qF 1 [(2, .I n), (3, .slice b ys.length d), (11, .P b32 0), (12, .slice a16 ((msgsOf (bW xs k n)).length) c17), (18, .slice sa seen.length sc), (19, .I i), (20, .I z), (21, .I fr)] ?_
            refine qR 1 [.c [11, 0, 1, 0, 0, 1, 0, 0, 4, 0], .c [11, 0, 1, 0, 0, 1, 0, 0, 5], .b 5, .c [11, 0, 1, 0, 0, 2], .l [11, 0, 1, 0, 0], .b 4, .c [12]] [(2, .I n), (3, .slice b ys.length d), (11, .P b32 0), (12, .slice a16 ((msgsOf (bW xs k n)).length) c17), (18, .slice sa seen.length sc), (19, .I i), (20, .I z), (21, .I fr)] ?_
            refine WK.drawH1 [] (.node (qs [0, 1, 2, 3, 4, 5, 6, 7, 8, 9, 10]) (.cons 11 (.leaf [(12, .qui), (13, .qui), (14, .qui), (15, .seq), (16, .seq), (17, .qui)]) (.cons 15 (.leaf [(11, .seq), (12, .qui), (13, .qui), (14, .qui), (16, .seq), (17, .qui)]) .nil))) Try_mixed (by as_aux_lemma => kernel_rfl) (by as_aux_lemma => kernel_rfl) ?_
            intro w222 hw223
            have H := H.draw
            rw [← hw223] at H
            clear hw223
            have hS := Chg.refl w222 []
            refine RG.node' (qs [0, 1, 2, 3, 4, 5, 6, 7, 8, 9, 10]) (by as_aux_lemma => kernel_rfl) ?_
            refine RH.load (d := some 151) (r := (qs [1, 2, 3, 4, 5, 6, 7, 8, 9, 10])) (T := 32) (b := b32) (o' := 0) (k := 0) (v := .agg (wrV D a3q k3q a4q k4q a5q k5q a6q k6q).toArray) (by as_aux_lemma => kernel_rfl) hS (H.cells 0 rfl) (by simp) (by simp) rfl (by as_aux_lemma => kernel_rfl) ?_
            refine qHP hS 1 (qs [2, 3, 4, 5, 6, 7, 8, 9, 10]) [(2, .I n), (3, .slice b ys.length d), (11, .P b32 0), (12, .slice a16 ((msgsOf (bW xs k n)).length) c17), (18, .slice sa seen.length sc), (19, .I i), (20, .I z), (21, .I fr), (151, .agg (wrV D a3q k3q a4q k4q a5q k5q a6q k6q).toArray), (152, .I z)] ?_
            refine RH.pv (d := some 153) (r := (qs [3, 4, 5, 6, 7, 8, 9, 10])) (v := .I (IntKind.i64.wrap ((z : Int) + 1))) (v' := .I ((z : Int) + 1)) (by as_aux_lemma => kernel_rfl) hS (wr_i64 (by omega)) ?_
            refine qHP hS 1 (qs [4, 5, 6, 7, 8, 9, 10]) [(2, .I n), (3, .slice b ys.length d), (11, .P b32 0), (12, .slice a16 ((msgsOf (bW xs k n)).length) c17), (18, .slice sa seen.length sc), (19, .I i), (20, .I z), (21, .I fr), (151, .agg (wrV D a3q k3q a4q k4q a5q k5q a6q k6q).toArray), (153, .I ((z : Int) + 1)), (154, .I fr)] ?_
            refine RH.pv (d := some 155) (r := (qs [5, 6, 7, 8, 9, 10])) (v := .I (IntKind.i64.wrap (((z : Int) + 1) + (fr : Int)))) (v' := .I (((z : Int) + 1) + (fr : Int))) (by as_aux_lemma => kernel_rfl) hS (wr_i64 (by omega)) ?_
            refine qHP hS 2 (qs [7, 8, 9, 10]) [(2, .I n), (3, .slice b ys.length d), (11, .P b32 0), (12, .slice a16 ((msgsOf (bW xs k n)).length) c17), (18, .slice sa seen.length sc), (19, .I i), (20, .I z), (21, .I fr), (151, .agg (wrV D a3q k3q a4q k4q a5q k5q a6q k6q).toArray), (155, .I (((z : Int) + 1) + (fr : Int))), (156, .slice a16 ((msgsOf (bW xs k n)).length) c17), (157, .I z)] ?_
            have hx224 : z < (msgsOf (bW xs k n)).length := by rw [bmsgs_len hkn]; exact hcn
            refine RH.index (d := some 158) (r := (qs [8, 9, 10])) (T := 33) (e := 57) (ik := .i64) (ix := (z : Int)) (sh := msgS) (x := (prepOf (bW xs k n) z)) (by as_aux_lemma => kernel_rfl) hS (by as_aux_lemma => kernel_rfl) H 6 rfl z (by omega) (bmsgs_all hkn hcn) ?_
            intro b225 o226 es227 hr228 H
            obtain ⟨a10q229, k10q229, cs11q229, cs12q229, a13q229, k13q229, a19q229, k19q229, rfl, hf230, hf231, hf232, hf233, hf234, hf235, hf236, hf237, hf238, hf239, hf240, hf241, hf242, hf243, hf244, hf245, hf246, hf247⟩ := msg_open hr228
            obtain ⟨a0q248, k0q248, a1q248, k1q248, rfl, hf249, hf250⟩ := conf_open hf239
            obtain ⟨cs0q251, rfl, hf252, hf253, hf254, hf255⟩ := hdr_open hf240
            obtain ⟨rfl, hf257, hf258, hf259⟩ := cid_open hf252
            have H := H.add (F := Rp (Shape.slice entS) [.slice a10q229 ((prepOf (bW xs k n) z).entries.length) k10q229] ((prepOf (bW xs k n) z).entries)) hf238
            have H := H.add (F := Rp (Shape.slice (Shape.int .i64)) [.slice a0q248 (((prepOf (bW xs k n) z).conf).voters.length) k0q248] (((prepOf (bW xs k n) z).conf).voters)) hf249
            have H := H.add (F := Rp (Shape.slice (Shape.int .i64)) [.slice a1q248 (((prepOf (bW xs k n) z).conf).learners.length) k1q248] (((prepOf (bW xs k n) z).conf).learners)) hf250
            have H := H.add (F := Rp SB [.slice a13q229 ((prepOf (bW xs k n) z).data.length) k13q229] ((prepOf (bW xs k n) z).data)) hf241
            have H := H.add (F := Rp (Shape.slice Shape.str) [.slice a19q229 ((prepOf (bW xs k n) z).names.length) k19q229] ((prepOf (bW xs k n) z).names)) hf247
            refine qHP hS 1 (qs [9, 10]) [(2, .I n), (3, .slice b ys.length d), (11, .P b32 0), (12, .slice a16 ((msgsOf (bW xs k n)).length) c17), (18, .slice sa seen.length sc), (19, .I i), (20, .I z), (21, .I fr), (151, .agg (wrV D a3q k3q a4q k4q a5q k5q a6q k6q).toArray), (155, .I (((z : Int) + 1) + (fr : Int))), (159, .pointer (some ⟨b225, o226 + 13, none⟩))] ?_
            refine RH.load (d := some 160) (r := [(10, .qui)]) (T := 53) (b := b225) (o' := o226 + 13) (k := 13) (v := .agg (hdrV ((prepOf (bW xs k n) z).head)).toArray) (by as_aux_lemma => kernel_rfl) hS (H.fc 5 rfl) (by simp) (by simp) rfl (by as_aux_lemma => kernel_rfl) ?_
            refine RH.finB hS 1 [2, 3, 11, 12, 18, 19, 20, 21, 151, 161] [(2, .I n), (3, .slice b ys.length d), (11, .P b32 0), (12, .slice a16 ((msgsOf (bW xs k n)).length) c17), (18, .slice sa seen.length sc), (19, .I i), (20, .I z), (21, .I fr), (151, .agg (wrV D a3q k3q a4q k4q a5q k5q a6q k6q).toArray), (161, .agg #[.I 10, .I (((z : Int) + 1) + (fr : Int)), .I 0, .int .u64 0, .int .u64 0, .int .u64 0, .int .u64 0, .int .u64 0, .bool true, .bool false, .slice none 0 0, .slice none 0 0, .slice none 0 0, .int .u64 ((((prepOf (bW xs k n) z).head).id).version), .I ((((prepOf (bW xs k n) z).head).id).index), .int .u64 ((((prepOf (bW xs k n) z).head).id).epoch), .I (((prepOf (bW xs k n) z).head).kk), .I (((prepOf (bW xs k n) z).head).nn), .I (((prepOf (bW xs k n) z).head).size), .int .u32 (((((prepOf (bW xs k n) z).head).sum).toNat : Nat) : Int), .slice none 0 0, .int .u64 0, .int .u64 0, .I 0, .string (⟨#[]⟩), .I 0, .slice none 0 0])] (by as_aux_lemma => kernel_rfl) ?_
            refine (RGB.cons' ?_ (RGB.cons' ?_ RGB.nil'))
            ·
             refine RG.leaf' [(11, .seq), (12, .qui), (13, .qui), (14, .qui), (15, .seq), (16, .seq), (17, .qui)] (by as_aux_lemma => kernel_rfl) ?_
             have Hr := H
             refine RH.chn hS ?_
             -- call
             refine qK .chn (some 162) [] 23 #[.agg (wrV D a3q k3q a4q k4q a5q k5q a6q k6q).toArray, .agg #[.I 10, .I (((z : Int) + 1) + (fr : Int)), .I 0, .int .u64 0, .int .u64 0, .int .u64 0, .int .u64 0, .int .u64 0, .bool true, .bool false, .slice none 0 0, .slice none 0 0, .slice none 0 0, .int .u64 ((((prepOf (bW xs k n) z).head).id).version), .I ((((prepOf (bW xs k n) z).head).id).index), .int .u64 ((((prepOf (bW xs k n) z).head).id).epoch), .I (((prepOf (bW xs k n) z).head).kk), .I (((prepOf (bW xs k n) z).head).nn), .I (((prepOf (bW xs k n) z).head).size), .int .u32 (((((prepOf (bW xs k n) z).head).sum).toNat : Nat) : Int), .slice none 0 0, .int .u64 0, .int .u64 0, .I 0, .string (⟨#[]⟩), .I 0, .slice none 0 0]] (got_spec (W := D) (wr_mkV u64a u64a ⟨rfl, by first | assumption | (simp [maxLen]; done) | decide⟩ (H.rp 6 rfl) (H.rp 7 rfl) (H.rp 8 rfl) (H.rp 9 rfl) i64a i64a i64a) 10 (((z : Int) + 1) + (fr : Int)) (⟨(((prepOf (bW xs k n) z).head).id), ((prepOf (bW xs k n) z).head).kk, ((prepOf (bW xs k n) z).head).nn, ((prepOf (bW xs k n) z).head).size, ((prepOf (bW xs k n) z).head).sum⟩) true (.I 0) (.int .u64 0) (.int .u64 0) (.int .u64 0) (.int .u64 0) (.int .u64 0) (.bool false) (.slice none 0 0) (.slice none 0 0) (.slice none 0 0) (.slice none 0 0) (.int .u64 0) (.int .u64 0) (.I 0) (.string (⟨#[]⟩)) (.I 0) (.slice none 0 0) (by first | assumption | omega)) ?_
             rintro _ w261 hE262 ⟨cs265, D264, D266, rfl, hr267, hlaw263⟩
             have H0s := H
             obtain ⟨a3q268, k3q268, a4q268, k4q268, a5q268, k5q268, a6q268, k6q268, rfl, hf269, hf270, hf271, hf272, hf273, hf274, hf275, hf276, hf277, hf278⟩ := wr_open hr267
             have H := H.addN hE262 (F := Rp (Shape.slice hdrS) [.slice a3q268 D264.heads.length k3q268] D264.heads) hf272
             have H := H.add (F := Rp (Shape.slice SB) [.slice a4q268 D264.chunks.length k4q268] D264.chunks) ((H0s.addN hE262 (F := Rp (Shape.slice SB) [.slice a4q268 D264.chunks.length k4q268] D264.chunks) hf273).rp 0 rfl)
             have H := H.add (F := Rp (Shape.slice (Shape.int .i64)) [.slice a5q268 D264.nodes.length k5q268] D264.nodes) ((H0s.addN hE262 (F := Rp (Shape.slice (Shape.int .i64)) [.slice a5q268 D264.nodes.length k5q268] D264.nodes) hf274).rp 0 rfl)
             have H := H.add (F := Rp (Shape.slice (Shape.int .i64)) [.slice a6q268 D264.acks.length k6q268] D264.acks) ((H0s.addN hE262 (F := Rp (Shape.slice (Shape.int .i64)) [.slice a6q268 D264.acks.length k6q268] D264.acks) hf275).rp 0 rfl)
             have hkpD264 := gotOf_keep hlaw263
             have hlkD264 := congrArg List.length hkpD264.1
             intro hS
             refine qHP hS 3 [(15, .seq), (16, .seq), (17, .qui)] [(2, .I n), (3, .slice b ys.length d), (11, .P b32 0), (12, .slice a16 ((msgsOf (bW xs k n)).length) c17), (18, .slice sa seen.length sc), (19, .I i), (20, .I z), (21, .I fr), (163, .agg (wrV D264 a3q268 k3q268 a4q268 k4q268 a5q268 k5q268 a6q268 k6q268).toArray), (164, .I D266)] ?_
             refine RH.chn hS ?_
             refine RW.newC (κ := .chn) (d := some 22) (r := []) (o := .cells (wrZ).toArray 32 (0, 0)) (v := fun b => .P b 0) (fun b => by as_aux_lemma => kernel_rfl) (nofun) H ?_
             intro b280 w281 hnw279 H
             have hnb282 := Nat.le_trans hS.size hnw279
             intro hS
             refine RH.sto ?_
             refine RW.storeC (d := none) (r := []) (T := 32) (b := b280) (k := 0) (v := .agg (wrV D264 a3q268 k3q268 a4q268 k4q268 a5q268 k5q268 a6q268 k6q268).toArray) (c' := (wrV D264 a3q268 k3q268 a4q268 k4q268 a5q268 k5q268 a6q268 k6q268).toArray) (M' := [(b280, .cells (wrV D264 a3q268 k3q268 a4q268 k4q268 a5q268 k5q268 a6q268 k6q268).toArray 32 (0, 0)), (b32, .cells (wrV D a3q k3q a4q k4q a5q k5q a6q k6q).toArray 32 (0, 0))]) (by as_aux_lemma => kernel_rfl) H 0 rfl (by as_aux_lemma => kernel_rfl) (by as_aux_lemma => kernel_rfl) ?_
             intro w284 hch283 H
             have hS285 := hS.sto hch283 (.inl hnb282)
             refine ⟨hS285, ?_⟩
             have hS := hS285
             refine RH.fin hS 1 [2, 3, 11, 12, 18, 19, 20, 21, 22, 23] [(2, .I n), (3, .slice b ys.length d), (11, .P b32 0), (12, .slice a16 ((msgsOf (bW xs k n)).length) c17), (18, .slice sa seen.length sc), (19, .I i), (20, .I z), (21, .I fr), (22, .P b280 0), (23, .I D266)] (by as_aux_lemma => kernel_rfl) ?_
             refine qR 2 [.c [11, 0, 1, 0, 0, 1, 0, 0, 5, 0, 0], .c [11, 0, 1, 0, 0, 1, 0, 0, 5, 0, 1], .c [11, 0, 1, 0, 0, 1, 0, 0, 6], .b 5, .c [11, 0, 1, 0, 0, 2], .l [11, 0, 1, 0, 0], .b 4, .c [12]] [(2, .I n), (3, .slice b ys.length d), (11, .P b32 0), (12, .slice a16 ((msgsOf (bW xs k n)).length) c17), (18, .slice sa seen.length sc), (19, .I i), (20, .I z), (21, .I fr), (22, .P b280 0), (23, .I D266)] ?_
             have H := H.pick [0, 1, 2, 3, 10, 11, 12, 13, 14, 15, 16, 17, 18, 19] rfl
             refine qG (sq 0 8) ?_
             refine qP 3 (sq 3 8) [(2, .I n), (3, .slice b ys.length d), (11, .P b32 0), (12, .slice a16 ((msgsOf (bW xs k n)).length) c17), (18, .slice sa seen.length sc), (19, .I i), (20, .I z), (22, .P b280 0), (23, .I D266), (167, .bool ((fr : Int) == 0))] ?_
             refine tE (fun b_ => [(2, .I n), (3, .slice b ys.length d), (11, .P b32 0), (12, .slice a16 ((msgsOf (bW xs k n)).length) c17), (18, .slice sa seen.length sc), (19, .I i), (20, .I z), (22, .P b280 0), (23, .I D266), (167, .bool b_)]) (fr : Int) 0 (fun h286 => ?_) (fun h286 => ?_)
             ·
              have hg9 : (D264, D266) = (bD xs k n (seenNext seen (z : Int) fr), (bD xs k n (seenNext seen (z : Int) fr)).done) := hlaw263.trans (by rw [hDe]; exact got_bD hkn hcn hsn hsr (bprep_head hkn hcn))
              obtain ⟨hD9, he9⟩ : D264 = bD xs k n (seenNext seen (z : Int) fr) ∧ D266 = (bD xs k n (seenNext seen (z : Int) fr)).done := by simpa using hg9
              have hse9 := sn_ok (fr := fr) hsn hsr hcn
              have hle9 := seen_le hse9.1 hse9.2
              refine qP 2 (sq 5 8) [(2, .I n), (3, .slice b ys.length d), (11, .P b32 0), (12, .slice a16 ((msgsOf (bW xs k n)).length) c17), (18, .slice sa seen.length sc), (19, .I i), (20, .I z), (22, .P b280 0), (23, .I D266), (167, .bool true), (168, .I z), (169, .slice sa seen.length sc)] ?_
              refine qK .seq (some 170) (sq 6 8) 24 #[.I z, .slice sa seen.length sc] (in12_spec (S := fun _ => True) (xs := seen) (z : Int) (H.view 0 rfl)) ?_
              rintro _ w287 hE288 rfl
              have H := H.ext hE288
              refine qF 2 [(2, .I n), (3, .slice b ys.length d), (11, .P b32 0), (12, .slice a16 ((msgsOf (bW xs k n)).length) c17), (18, .slice sa seen.length sc), (19, .I i), (20, .I z), (22, .P b280 0), (23, .I D266), (172, .bool (!(decide ((z : Int) ∈ seen))))] ?_
              refine qC (!(decide ((z : Int) ∈ seen))) (fun h289 => ?_) (fun h289 => ?_)
              ·
               replace h289 : (decide ((z : Int) ∈ seen)) = false := by revert h289; cases (decide ((z : Int) ∈ seen)) <;> simp
               replace h289 := of_decide_eq_false h289
               refine qG (sq 0 5) ?_
               refine qP 2 (sq 2 5) [(2, .I n), (3, .slice b ys.length d), (11, .P b32 0), (12, .slice a16 ((msgsOf (bW xs k n)).length) c17), (18, .slice sa seen.length sc), (19, .I i), (22, .P b280 0), (23, .I D266), (173, .slice sa seen.length sc), (174, .I z)] ?_
               refine RW.new (κ := .seq) (d := some 175) (r := (sq 3 5)) (o := .cells #[.I z] 3 (0, 0)) (v := fun b => .slice (some ⟨b, 0, none⟩) 1 1) (fun b => by as_aux_lemma => kernel_rfl) (nofun) H ?_
               intro b290 w291 H
               have H := H.freeze 0 rfl (Shape.int .i64) ([(z : Int)] : List Int) 1 (by simp [maxLen]) (by first | exact Nat.le_refl _ | simp) (EsP.cons (c := [.I z]) i64a EsP.nil)
               have H : Hp w S [] [(b280, .cells (wrV D264 a3q268 k3q268 a4q268 k4q268 a5q268 k5q268 a6q268 k6q268).toArray 32 (0, 0)), (b32, .cells (wrV D a3q k3q a4q k4q a5q k5q a6q k6q).toArray 32 (0, 0))] [⟨Shape.int .i64, 3, .slice sa seen.length sc, seen⟩] [Rp (Shape.slice (Shape.int .i64)) [.slice (some ⟨b290, 0, none⟩) 1 1] ([(z : Int)] : List Int), Rp (Shape.slice (Shape.int .i64)) [.slice a6q268 D264.acks.length k6q268] D264.acks, Rp (Shape.slice (Shape.int .i64)) [.slice a5q268 D264.nodes.length k5q268] D264.nodes, Rp (Shape.slice SB) [.slice a4q268 D264.chunks.length k4q268] D264.chunks, Rp (Shape.slice hdrS) [.slice a3q268 D264.heads.length k3q268] D264.heads, Rp (Shape.slice hdrS) [.slice a3q D.heads.length k3q] D.heads, Rp (Shape.slice SB) [.slice a4q D.chunks.length k4q] D.chunks, Rp (Shape.slice (Shape.int .i64)) [.slice a5q D.nodes.length k5q] D.nodes, Rp (Shape.slice (Shape.int .i64)) [.slice a6q D.acks.length k6q] D.acks, Rp SB [.slice a198 xs.length c199] xs, Rp (Shape.slice pcS) [.slice ao (pcs xs k n).length co] (pcs xs k n), Rp (Shape.slice msgS) [.slice a16 ((msgsOf (bW xs k n)).length) c17] (msgsOf (bW xs k n)), Rp (Shape.slice (Shape.int .i64)) [.slice na (nodesA n).length nc] (nodesA n), Rp SB [.slice a xs.length c] xs, Rp (Shape.slice (Shape.int .i64)) [.slice b ys.length d] ys] _ := H
               refine RW.appendW (d := some 176) (r := (sq 4 5)) (T := 25) (ty := 25) (e := 3) (m := 1) (by_ := 8) (v := .slice sa seen.length sc) (a2 := (some ⟨b290, 0, none⟩)) (l2 := 1) (c2 := 1) (zs := seen ++ ([(z : Int)] : List Int)) (by as_aux_lemma => kernel_rfl) (by as_aux_lemma => kernel_rfl) rfl H 0 rfl 0 rfl (rfl) (by simp only [List.length_append, List.length_cons, List.length_nil]; omega) ?_
               intro a292 c293 w295 H hc294
               have H : Hp w S [] [(b280, .cells (wrV D264 a3q268 k3q268 a4q268 k4q268 a5q268 k5q268 a6q268 k6q268).toArray 32 (0, 0)), (b32, .cells (wrV D a3q k3q a4q k4q a5q k5q a6q k6q).toArray 32 (0, 0))] [⟨Shape.int .i64, 3, .slice a292 ((seen ++ ([(z : Int)] : List Int)).length) c293, seen ++ ([(z : Int)] : List Int)⟩] [Rp (Shape.slice (Shape.int .i64)) [.slice (some ⟨b290, 0, none⟩) 1 1] ([(z : Int)] : List Int), Rp (Shape.slice (Shape.int .i64)) [.slice a6q268 D264.acks.length k6q268] D264.acks, Rp (Shape.slice (Shape.int .i64)) [.slice a5q268 D264.nodes.length k5q268] D264.nodes, Rp (Shape.slice SB) [.slice a4q268 D264.chunks.length k4q268] D264.chunks, Rp (Shape.slice hdrS) [.slice a3q268 D264.heads.length k3q268] D264.heads, Rp (Shape.slice hdrS) [.slice a3q D.heads.length k3q] D.heads, Rp (Shape.slice SB) [.slice a4q D.chunks.length k4q] D.chunks, Rp (Shape.slice (Shape.int .i64)) [.slice a5q D.nodes.length k5q] D.nodes, Rp (Shape.slice (Shape.int .i64)) [.slice a6q D.acks.length k6q] D.acks, Rp SB [.slice a198 xs.length c199] xs, Rp (Shape.slice pcS) [.slice ao (pcs xs k n).length co] (pcs xs k n), Rp (Shape.slice msgS) [.slice a16 ((msgsOf (bW xs k n)).length) c17] (msgsOf (bW xs k n)), Rp (Shape.slice (Shape.int .i64)) [.slice na (nodesA n).length nc] (nodesA n), Rp SB [.slice a xs.length c] xs, Rp (Shape.slice (Shape.int .i64)) [.slice b ys.length d] ys] _ := H
               refine qF 1 [(2, .I n), (3, .slice b ys.length d), (11, .P b32 0), (12, .slice a16 ((msgsOf (bW xs k n)).length) c17), (18, .slice a292 ((seen ++ ([(z : Int)] : List Int)).length) c293), (19, .I i), (22, .P b280 0), (23, .I D266)] ?_
               refine qR 2 [.c [11, 0, 1, 0, 0, 1, 0, 0, 6, 0, 0], .c [11, 0, 1, 0, 0, 1, 0, 0, 6, 0, 1], .c [11, 0, 1, 0, 0, 1, 0, 0, 7], .b 5, .c [11, 0, 1, 0, 0, 2], .l [11, 0, 1, 0, 0], .b 4, .c [12]] [(2, .I n), (3, .slice b ys.length d), (11, .P b32 0), (12, .slice a16 ((msgsOf (bW xs k n)).length) c17), (18, .slice a292 ((seen ++ ([(z : Int)] : List Int)).length) c293), (19, .I i), (22, .P b280 0), (23, .I D266)] ?_
               have H := H.pick [1, 2, 3, 4, 5, 6, 7, 8, 9, 10, 11, 12, 13, 14] rfl
               refine qG (sq 0 11) ?_
               refine qP 8 (sq 8 11) [(2, .I n), (3, .slice b ys.length d), (11, .P b32 0), (12, .slice a16 ((msgsOf (bW xs k n)).length) c17), (18, .slice a292 ((seen ++ ([(z : Int)] : List Int)).length) c293), (19, .I i), (22, .P b280 0), (23, .I D266), (184, .bool (!((D266 == 1) == ((((seen ++ ([(z : Int)] : List Int)).length : Nat) : Int) == (n : Int)))))] ?_
               refine RW.test (fun b_ => [(2, .I n), (3, .slice b ys.length d), (11, .P b32 0), (12, .slice a16 ((msgsOf (bW xs k n)).length) c17), (18, .slice a292 ((seen ++ ([(z : Int)] : List Int)).length) c293), (19, .I i), (22, .P b280 0), (23, .I D266), (184, .bool b_)]) (!((D266 == 1) == ((((seen ++ ([(z : Int)] : List Int)).length : Nat) : Int) == (n : Int)))) (fun h296 => ?_) (fun h296 => ?_)
               ·
                replace h296 : (((D266 == 1) == ((((seen ++ ([(z : Int)] : List Int)).length : Nat) : Int) == (n : Int)))) = false := by revert h296; cases (((D266 == 1) == ((((seen ++ ([(z : Int)] : List Int)).length : Nat) : Int) == (n : Int)))) <;> simp
                replace h296 := ne_of_beq_false h296
                have hv9 : D266 = if (seen ++ ([(z : Int)] : List Int)).length = n then 1 else 0 := by
                 rw [he9]
                 first | rw [← sn_yes (by omega) (by assumption)]; rfl | rw [← sn_no1 (by omega)]; rfl | rw [← sn_no2 (by assumption)]; rfl
                exact absurd (all_v hv9) h296
               ·
                replace h296 : (((D266 == 1) == ((((seen ++ ([(z : Int)] : List Int)).length : Nat) : Int) == (n : Int)))) = true := by revert h296; cases (((D266 == 1) == ((((seen ++ ([(z : Int)] : List Int)).length : Nat) : Int) == (n : Int)))) <;> simp
                replace h296 := eq_of_beq h296
                refine qF 3 [(2, .I n), (3, .slice b ys.length d), (11, .P b32 0), (12, .slice a16 ((msgsOf (bW xs k n)).length) c17), (18, .slice a292 ((seen ++ ([(z : Int)] : List Int)).length) c293), (19, .I i), (22, .P b280 0), (187, .bool (D266 == 2))] ?_
                refine qE D266 2 (fun h297 => ?_) (fun h297 => ?_)
                ·
                 have hv9 : D266 = if (seen ++ ([(z : Int)] : List Int)).length = n then 1 else 0 := by
                  rw [he9]
                  first | rw [← sn_yes (by omega) (by assumption)]; rfl | rw [← sn_no1 (by omega)]; rfl | rw [← sn_no2 (by assumption)]; rfl
                 exact absurd h297 (all_v2 hv9)
                ·
                 refine qR 1 [.c [11, 0, 1, 0, 0, 1, 0, 0, 7], .b 5, .c [11, 0, 1, 0, 0, 2], .l [11, 0, 1, 0, 0], .b 4, .c [12]] [(2, .I n), (3, .slice b ys.length d), (11, .P b32 0), (12, .slice a16 ((msgsOf (bW xs k n)).length) c17), (18, .slice a292 ((seen ++ ([(z : Int)] : List Int)).length) c293), (19, .I i), (22, .P b280 0)] ?_
                 refine qG (sq 0 2) ?_
                 refine qL .seq 188 (sq 1 2) 32 b280 0 0 (.agg (wrV D264 a3q268 k3q268 a4q268 k4q268 a5q268 k5q268 a6q268 k6q268).toArray) (H.cells 0 rfl) ?_
                 refine RW.store (d := none) (r := (sq 2 2)) (T := 32) (b := b32) (k := 0) (v := .agg (wrV D264 a3q268 k3q268 a4q268 k4q268 a5q268 k5q268 a6q268 k6q268).toArray) (c' := (wrV D264 a3q268 k3q268 a4q268 k4q268 a5q268 k5q268 a6q268 k6q268).toArray) (M' := [(b280, .cells (wrV D264 a3q268 k3q268 a4q268 k4q268 a5q268 k5q268 a6q268 k6q268).toArray 32 (0, 0)), (b32, .cells (wrV D264 a3q268 k3q268 a4q268 k4q268 a5q268 k5q268 a6q268 k6q268).toArray 32 (0, 0))]) (by as_aux_lemma => kernel_rfl) H 1 rfl (by as_aux_lemma => kernel_rfl) (by as_aux_lemma => kernel_rfl) ?_
                 intro w298 H
                 refine qF 0 [(2, .I n), (3, .slice b ys.length d), (11, .P b32 0), (12, .slice a16 ((msgsOf (bW xs k n)).length) c17), (18, .slice a292 ((seen ++ ([(z : Int)] : List Int)).length) c293), (19, .I i)] ?_
                 refine qR 1 [.c [11, 0, 1, 0, 0, 2], .l [11, 0, 1, 0, 0], .b 4, .c [12]] [(2, .I n), (3, .slice b ys.length d), (11, .P b32 0), (12, .slice a16 ((msgsOf (bW xs k n)).length) c17), (18, .slice a292 ((seen ++ ([(z : Int)] : List Int)).length) c293), (19, .I i)] ?_
                 have H := H.dropM 0
                 refine qG (sq 0 3) ?_
                 refine qP 1 (sq 1 3) [(2, .I n), (3, .slice b ys.length d), (11, .P b32 0), (12, .slice a16 ((msgsOf (bW xs k n)).length) c17), (18, .slice a292 ((seen ++ ([(z : Int)] : List Int)).length) c293), (19, .I i), (137, .I i)] ?_
                 refine qI .seq 138 (sq 2 3) ((i : Int) + 1) ?_
                 refine qF 1 [(2, .I n), (3, .slice b ys.length d), (11, .P b32 0), (12, .slice a16 ((msgsOf (bW xs k n)).length) c17), (18, .slice a292 ((seen ++ ([(z : Int)] : List Int)).length) c293), (19, .I ((i : Int) + 1))] ?_
                 have H := H.pick [3, 2, 1, 0, 8, 9, 10, 11, 12, 13] (G' := [Rp (Shape.slice hdrS) [.slice a3q268 D264.heads.length k3q268] D264.heads, Rp (Shape.slice SB) [.slice a4q268 D264.chunks.length k4q268] D264.chunks, Rp (Shape.slice (Shape.int .i64)) [.slice a5q268 D264.nodes.length k5q268] D264.nodes, Rp (Shape.slice (Shape.int .i64)) [.slice a6q268 D264.acks.length k6q268] D264.acks, Rp SB [.slice a198 xs.length c199] xs, Rp (Shape.slice pcS) [.slice ao (pcs xs k n).length co] (pcs xs k n), Rp (Shape.slice msgS) [.slice a16 ((msgsOf (bW xs k n)).length) c17] (msgsOf (bW xs k n)), Rp (Shape.slice (Shape.int .i64)) [.slice na (nodesA n).length nc] (nodesA n), Rp SB [.slice a xs.length c] xs, Rp (Shape.slice (Shape.int .i64)) [.slice b ys.length d] ys]) rfl
                 exact WK.back (hback206 (i + 1, D264, seen ++ ([(z : Int)] : List Int), a3q268, k3q268, a4q268, k4q268, a5q268, k5q268, a6q268, k6q268, a292, c293) _ ⟨H, by omega, by first | (rw [hD9, ← sn_yes (by omega) (by assumption)]) | (rw [hD9, ← sn_no1 (by omega)]) | (rw [hD9, ← sn_no2 (by assumption)]), by first | (rw [sn_yes (fr := fr) (by omega) (by assumption)]; exact hse9.1) | exact hsn, by first | (rw [sn_yes (fr := fr) (by omega) (by assumption)]; exact hse9.2) | exact hsr⟩ (by simp only []; omega)) (by as_aux_lemma => kernel_rfl)
              ·
               replace h289 : (decide ((z : Int) ∈ seen)) = true := by revert h289; cases (decide ((z : Int) ∈ seen)) <;> simp
               replace h289 := of_decide_eq_true h289
               refine qR 3 [.c [11, 0, 1, 0, 0, 1, 0, 0, 6, 0, 0], .c [11, 0, 1, 0, 0, 1, 0, 0, 6, 0, 1], .c [11, 0, 1, 0, 0, 1, 0, 0, 7], .b 5, .c [11, 0, 1, 0, 0, 2], .l [11, 0, 1, 0, 0], .b 4, .c [12]] [(2, .I n), (3, .slice b ys.length d), (11, .P b32 0), (12, .slice a16 ((msgsOf (bW xs k n)).length) c17), (18, .slice sa seen.length sc), (19, .I i), (22, .P b280 0), (23, .I D266)] ?_
               refine qG (sq 0 11) ?_
               refine qP 8 (sq 8 11) [(2, .I n), (3, .slice b ys.length d), (11, .P b32 0), (12, .slice a16 ((msgsOf (bW xs k n)).length) c17), (18, .slice sa seen.length sc), (19, .I i), (22, .P b280 0), (23, .I D266), (184, .bool (!((D266 == 1) == (((seen.length : Nat) : Int) == (n : Int)))))] ?_
               refine RW.test (fun b_ => [(2, .I n), (3, .slice b ys.length d), (11, .P b32 0), (12, .slice a16 ((msgsOf (bW xs k n)).length) c17), (18, .slice sa seen.length sc), (19, .I i), (22, .P b280 0), (23, .I D266), (184, .bool b_)]) (!((D266 == 1) == (((seen.length : Nat) : Int) == (n : Int)))) (fun h299 => ?_) (fun h299 => ?_)
               ·
                replace h299 : (((D266 == 1) == (((seen.length : Nat) : Int) == (n : Int)))) = false := by revert h299; cases (((D266 == 1) == (((seen.length : Nat) : Int) == (n : Int)))) <;> simp
                replace h299 := ne_of_beq_false h299
                have hv9 : D266 = if (seen).length = n then 1 else 0 := by
                 rw [he9]
                 first | rw [← sn_yes (by omega) (by assumption)]; rfl | rw [← sn_no1 (by omega)]; rfl | rw [← sn_no2 (by assumption)]; rfl
                exact absurd (all_v hv9) h299
               ·
                replace h299 : (((D266 == 1) == (((seen.length : Nat) : Int) == (n : Int)))) = true := by revert h299; cases (((D266 == 1) == (((seen.length : Nat) : Int) == (n : Int)))) <;> simp
                replace h299 := eq_of_beq h299
                refine qF 3 [(2, .I n), (3, .slice b ys.length d), (11, .P b32 0), (12, .slice a16 ((msgsOf (bW xs k n)).length) c17), (18, .slice sa seen.length sc), (19, .I i), (22, .P b280 0), (187, .bool (D266 == 2))] ?_
                refine qE D266 2 (fun h300 => ?_) (fun h300 => ?_)
                ·
                 have hv9 : D266 = if (seen).length = n then 1 else 0 := by
                  rw [he9]
                  first | rw [← sn_yes (by omega) (by assumption)]; rfl | rw [← sn_no1 (by omega)]; rfl | rw [← sn_no2 (by assumption)]; rfl
                 exact absurd h300 (all_v2 hv9)
                ·
                 refine qR 1 [.c [11, 0, 1, 0, 0, 1, 0, 0, 7], .b 5, .c [11, 0, 1, 0, 0, 2], .l [11, 0, 1, 0, 0], .b 4, .c [12]] [(2, .I n), (3, .slice b ys.length d), (11, .P b32 0), (12, .slice a16 ((msgsOf (bW xs k n)).length) c17), (18, .slice sa seen.length sc), (19, .I i), (22, .P b280 0)] ?_
                 refine qG (sq 0 2) ?_
                 refine qL .seq 188 (sq 1 2) 32 b280 0 0 (.agg (wrV D264 a3q268 k3q268 a4q268 k4q268 a5q268 k5q268 a6q268 k6q268).toArray) (H.cells 0 rfl) ?_
                 refine RW.store (d := none) (r := (sq 2 2)) (T := 32) (b := b32) (k := 0) (v := .agg (wrV D264 a3q268 k3q268 a4q268 k4q268 a5q268 k5q268 a6q268 k6q268).toArray) (c' := (wrV D264 a3q268 k3q268 a4q268 k4q268 a5q268 k5q268 a6q268 k6q268).toArray) (M' := [(b280, .cells (wrV D264 a3q268 k3q268 a4q268 k4q268 a5q268 k5q268 a6q268 k6q268).toArray 32 (0, 0)), (b32, .cells (wrV D264 a3q268 k3q268 a4q268 k4q268 a5q268 k5q268 a6q268 k6q268).toArray 32 (0, 0))]) (by as_aux_lemma => kernel_rfl) H 1 rfl (by as_aux_lemma => kernel_rfl) (by as_aux_lemma => kernel_rfl) ?_
                 intro w301 H
                 refine qF 0 [(2, .I n), (3, .slice b ys.length d), (11, .P b32 0), (12, .slice a16 ((msgsOf (bW xs k n)).length) c17), (18, .slice sa seen.length sc), (19, .I i)] ?_
                 refine qR 1 [.c [11, 0, 1, 0, 0, 2], .l [11, 0, 1, 0, 0], .b 4, .c [12]] [(2, .I n), (3, .slice b ys.length d), (11, .P b32 0), (12, .slice a16 ((msgsOf (bW xs k n)).length) c17), (18, .slice sa seen.length sc), (19, .I i)] ?_
                 have H := H.dropM 0
                 refine qG (sq 0 3) ?_
                 refine qP 1 (sq 1 3) [(2, .I n), (3, .slice b ys.length d), (11, .P b32 0), (12, .slice a16 ((msgsOf (bW xs k n)).length) c17), (18, .slice sa seen.length sc), (19, .I i), (137, .I i)] ?_
                 refine qI .seq 138 (sq 2 3) ((i : Int) + 1) ?_
                 refine qF 1 [(2, .I n), (3, .slice b ys.length d), (11, .P b32 0), (12, .slice a16 ((msgsOf (bW xs k n)).length) c17), (18, .slice sa seen.length sc), (19, .I ((i : Int) + 1))] ?_
                 have H := H.pick [3, 2, 1, 0, 8, 9, 10, 11, 12, 13] (G' := [Rp (Shape.slice hdrS) [.slice a3q268 D264.heads.length k3q268] D264.heads, Rp (Shape.slice SB) [.slice a4q268 D264.chunks.length k4q268] D264.chunks, Rp (Shape.slice (Shape.int .i64)) [.slice a5q268 D264.nodes.length k5q268] D264.nodes, Rp (Shape.slice (Shape.int .i64)) [.slice a6q268 D264.acks.length k6q268] D264.acks, Rp SB [.slice a198 xs.length c199] xs, Rp (Shape.slice pcS) [.slice ao (pcs xs k n).length co] (pcs xs k n), Rp (Shape.slice msgS) [.slice a16 ((msgsOf (bW xs k n)).length) c17] (msgsOf (bW xs k n)), Rp (Shape.slice (Shape.int .i64)) [.slice na (nodesA n).length nc] (nodesA n), Rp SB [.slice a xs.length c] xs, Rp (Shape.slice (Shape.int .i64)) [.slice b ys.length d] ys]) rfl
                 exact WK.back (hback206 (i + 1, D264, seen, a3q268, k3q268, a4q268, k4q268, a5q268, k5q268, a6q268, k6q268, sa, sc) _ ⟨H, by omega, by first | (rw [hD9, ← sn_yes (by omega) (by assumption)]) | (rw [hD9, ← sn_no1 (by omega)]) | (rw [hD9, ← sn_no2 (by assumption)]), by first | (rw [sn_yes (fr := fr) (by omega) (by assumption)]; exact hse9.1) | exact hsn, by first | (rw [sn_yes (fr := fr) (by omega) (by assumption)]; exact hse9.2) | exact hsr⟩ (by simp only []; omega)) (by as_aux_lemma => kernel_rfl)
             ·
              have hg9 : (D264, D266) = (bD xs k n (seenNext seen (z : Int) fr), (bD xs k n (seenNext seen (z : Int) fr)).done) := hlaw263.trans (by rw [hDe]; exact got_bD hkn hcn hsn hsr (bprep_head hkn hcn))
              obtain ⟨hD9, he9⟩ : D264 = bD xs k n (seenNext seen (z : Int) fr) ∧ D266 = (bD xs k n (seenNext seen (z : Int) fr)).done := by simpa using hg9
              have hse9 := sn_ok (fr := fr) hsn hsr hcn
              have hle9 := seen_le hse9.1 hse9.2
              refine qF 5 [(2, .I n), (3, .slice b ys.length d), (11, .P b32 0), (12, .slice a16 ((msgsOf (bW xs k n)).length) c17), (18, .slice sa seen.length sc), (19, .I i), (20, .I z), (22, .P b280 0), (23, .I D266), (172, .bool false)] ?_
              refine qR 4 [.c [11, 0, 1, 0, 0, 1, 0, 0, 6, 0, 0], .c [11, 0, 1, 0, 0, 1, 0, 0, 6, 0, 1], .c [11, 0, 1, 0, 0, 1, 0, 0, 7], .b 5, .c [11, 0, 1, 0, 0, 2], .l [11, 0, 1, 0, 0], .b 4, .c [12]] [(2, .I n), (3, .slice b ys.length d), (11, .P b32 0), (12, .slice a16 ((msgsOf (bW xs k n)).length) c17), (18, .slice sa seen.length sc), (19, .I i), (22, .P b280 0), (23, .I D266)] ?_
              refine qG (sq 0 11) ?_
              refine qP 8 (sq 8 11) [(2, .I n), (3, .slice b ys.length d), (11, .P b32 0), (12, .slice a16 ((msgsOf (bW xs k n)).length) c17), (18, .slice sa seen.length sc), (19, .I i), (22, .P b280 0), (23, .I D266), (184, .bool (!((D266 == 1) == (((seen.length : Nat) : Int) == (n : Int)))))] ?_
              refine RW.test (fun b_ => [(2, .I n), (3, .slice b ys.length d), (11, .P b32 0), (12, .slice a16 ((msgsOf (bW xs k n)).length) c17), (18, .slice sa seen.length sc), (19, .I i), (22, .P b280 0), (23, .I D266), (184, .bool b_)]) (!((D266 == 1) == (((seen.length : Nat) : Int) == (n : Int)))) (fun h302 => ?_) (fun h302 => ?_)
              ·
               replace h302 : (((D266 == 1) == (((seen.length : Nat) : Int) == (n : Int)))) = false := by revert h302; cases (((D266 == 1) == (((seen.length : Nat) : Int) == (n : Int)))) <;> simp
               replace h302 := ne_of_beq_false h302
               have hv9 : D266 = if (seen).length = n then 1 else 0 := by
                rw [he9]
                first | rw [← sn_yes (by omega) (by assumption)]; rfl | rw [← sn_no1 (by omega)]; rfl | rw [← sn_no2 (by assumption)]; rfl
               exact absurd (all_v hv9) h302
              ·
               replace h302 : (((D266 == 1) == (((seen.length : Nat) : Int) == (n : Int)))) = true := by revert h302; cases (((D266 == 1) == (((seen.length : Nat) : Int) == (n : Int)))) <;> simp
               replace h302 := eq_of_beq h302
               refine qF 3 [(2, .I n), (3, .slice b ys.length d), (11, .P b32 0), (12, .slice a16 ((msgsOf (bW xs k n)).length) c17), (18, .slice sa seen.length sc), (19, .I i), (22, .P b280 0), (187, .bool (D266 == 2))] ?_
               refine qE D266 2 (fun h303 => ?_) (fun h303 => ?_)
               ·
                have hv9 : D266 = if (seen).length = n then 1 else 0 := by
                 rw [he9]
                 first | rw [← sn_yes (by omega) (by assumption)]; rfl | rw [← sn_no1 (by omega)]; rfl | rw [← sn_no2 (by assumption)]; rfl
                exact absurd h303 (all_v2 hv9)
               ·
                refine qR 1 [.c [11, 0, 1, 0, 0, 1, 0, 0, 7], .b 5, .c [11, 0, 1, 0, 0, 2], .l [11, 0, 1, 0, 0], .b 4, .c [12]] [(2, .I n), (3, .slice b ys.length d), (11, .P b32 0), (12, .slice a16 ((msgsOf (bW xs k n)).length) c17), (18, .slice sa seen.length sc), (19, .I i), (22, .P b280 0)] ?_
                refine qG (sq 0 2) ?_
                refine qL .seq 188 (sq 1 2) 32 b280 0 0 (.agg (wrV D264 a3q268 k3q268 a4q268 k4q268 a5q268 k5q268 a6q268 k6q268).toArray) (H.cells 0 rfl) ?_
                refine RW.store (d := none) (r := (sq 2 2)) (T := 32) (b := b32) (k := 0) (v := .agg (wrV D264 a3q268 k3q268 a4q268 k4q268 a5q268 k5q268 a6q268 k6q268).toArray) (c' := (wrV D264 a3q268 k3q268 a4q268 k4q268 a5q268 k5q268 a6q268 k6q268).toArray) (M' := [(b280, .cells (wrV D264 a3q268 k3q268 a4q268 k4q268 a5q268 k5q268 a6q268 k6q268).toArray 32 (0, 0)), (b32, .cells (wrV D264 a3q268 k3q268 a4q268 k4q268 a5q268 k5q268 a6q268 k6q268).toArray 32 (0, 0))]) (by as_aux_lemma => kernel_rfl) H 1 rfl (by as_aux_lemma => kernel_rfl) (by as_aux_lemma => kernel_rfl) ?_
                intro w304 H
                refine qF 0 [(2, .I n), (3, .slice b ys.length d), (11, .P b32 0), (12, .slice a16 ((msgsOf (bW xs k n)).length) c17), (18, .slice sa seen.length sc), (19, .I i)] ?_
                refine qR 1 [.c [11, 0, 1, 0, 0, 2], .l [11, 0, 1, 0, 0], .b 4, .c [12]] [(2, .I n), (3, .slice b ys.length d), (11, .P b32 0), (12, .slice a16 ((msgsOf (bW xs k n)).length) c17), (18, .slice sa seen.length sc), (19, .I i)] ?_
                have H := H.dropM 0
                refine qG (sq 0 3) ?_
                refine qP 1 (sq 1 3) [(2, .I n), (3, .slice b ys.length d), (11, .P b32 0), (12, .slice a16 ((msgsOf (bW xs k n)).length) c17), (18, .slice sa seen.length sc), (19, .I i), (137, .I i)] ?_
                refine qI .seq 138 (sq 2 3) ((i : Int) + 1) ?_
                refine qF 1 [(2, .I n), (3, .slice b ys.length d), (11, .P b32 0), (12, .slice a16 ((msgsOf (bW xs k n)).length) c17), (18, .slice sa seen.length sc), (19, .I ((i : Int) + 1))] ?_
                have H := H.pick [3, 2, 1, 0, 8, 9, 10, 11, 12, 13] (G' := [Rp (Shape.slice hdrS) [.slice a3q268 D264.heads.length k3q268] D264.heads, Rp (Shape.slice SB) [.slice a4q268 D264.chunks.length k4q268] D264.chunks, Rp (Shape.slice (Shape.int .i64)) [.slice a5q268 D264.nodes.length k5q268] D264.nodes, Rp (Shape.slice (Shape.int .i64)) [.slice a6q268 D264.acks.length k6q268] D264.acks, Rp SB [.slice a198 xs.length c199] xs, Rp (Shape.slice pcS) [.slice ao (pcs xs k n).length co] (pcs xs k n), Rp (Shape.slice msgS) [.slice a16 ((msgsOf (bW xs k n)).length) c17] (msgsOf (bW xs k n)), Rp (Shape.slice (Shape.int .i64)) [.slice na (nodesA n).length nc] (nodesA n), Rp SB [.slice a xs.length c] xs, Rp (Shape.slice (Shape.int .i64)) [.slice b ys.length d] ys]) rfl
                exact WK.back (hback206 (i + 1, D264, seen, a3q268, k3q268, a4q268, k4q268, a5q268, k5q268, a6q268, k6q268, sa, sc) _ ⟨H, by omega, by first | (rw [hD9, ← sn_yes (by omega) (by assumption)]) | (rw [hD9, ← sn_no1 (by omega)]) | (rw [hD9, ← sn_no2 (by assumption)]), by first | (rw [sn_yes (fr := fr) (by omega) (by assumption)]; exact hse9.1) | exact hsn, by first | (rw [sn_yes (fr := fr) (by omega) (by assumption)]; exact hse9.2) | exact hsr⟩ (by simp only []; omega)) (by as_aux_lemma => kernel_rfl)
            ·
             refine RG.leaf' [(15, .seq), (11, .seq), (12, .qui), (13, .qui), (14, .qui), (16, .seq), (17, .qui)] (by as_aux_lemma => kernel_rfl) ?_
             have Hr := H
             refine RH.chn hS ?_
             refine RW.newC (κ := .chn) (d := some 22) (r := []) (o := .cells (wrZ).toArray 32 (0, 0)) (v := fun b => .P b 0) (fun b => by as_aux_lemma => kernel_rfl) (nofun) H ?_
             intro b306 w307 hnw305 H
             have hnb308 := Nat.le_trans hS.size hnw305
             intro hS
             refine RH.chn hS ?_
             -- call
             refine qK .chn (some 162) [] 23 #[.agg (wrV D a3q k3q a4q k4q a5q k5q a6q k6q).toArray, .agg #[.I 10, .I (((z : Int) + 1) + (fr : Int)), .I 0, .int .u64 0, .int .u64 0, .int .u64 0, .int .u64 0, .int .u64 0, .bool true, .bool false, .slice none 0 0, .slice none 0 0, .slice none 0 0, .int .u64 ((((prepOf (bW xs k n) z).head).id).version), .I ((((prepOf (bW xs k n) z).head).id).index), .int .u64 ((((prepOf (bW xs k n) z).head).id).epoch), .I (((prepOf (bW xs k n) z).head).kk), .I (((prepOf (bW xs k n) z).head).nn), .I (((prepOf (bW xs k n) z).head).size), .int .u32 (((((prepOf (bW xs k n) z).head).sum).toNat : Nat) : Int), .slice none 0 0, .int .u64 0, .int .u64 0, .I 0, .string (⟨#[]⟩), .I 0, .slice none 0 0]] (got_spec (W := D) (wr_mkV u64a u64a ⟨rfl, by first | assumption | (simp [maxLen]; done) | decide⟩ (H.rp 6 rfl) (H.rp 7 rfl) (H.rp 8 rfl) (H.rp 9 rfl) i64a i64a i64a) 10 (((z : Int) + 1) + (fr : Int)) (⟨(((prepOf (bW xs k n) z).head).id), ((prepOf (bW xs k n) z).head).kk, ((prepOf (bW xs k n) z).head).nn, ((prepOf (bW xs k n) z).head).size, ((prepOf (bW xs k n) z).head).sum⟩) true (.I 0) (.int .u64 0) (.int .u64 0) (.int .u64 0) (.int .u64 0) (.int .u64 0) (.bool false) (.slice none 0 0) (.slice none 0 0) (.slice none 0 0) (.slice none 0 0) (.int .u64 0) (.int .u64 0) (.I 0) (.string (⟨#[]⟩)) (.I 0) (.slice none 0 0) (by first | assumption | omega)) ?_
             rintro _ w310 hE311 ⟨cs314, D313, D315, rfl, hr316, hlaw312⟩
             have H0s := H
             obtain ⟨a3q317, k3q317, a4q317, k4q317, a5q317, k5q317, a6q317, k6q317, rfl, hf318, hf319, hf320, hf321, hf322, hf323, hf324, hf325, hf326, hf327⟩ := wr_open hr316
             have H := H.addN hE311 (F := Rp (Shape.slice hdrS) [.slice a3q317 D313.heads.length k3q317] D313.heads) hf321
             have H := H.add (F := Rp (Shape.slice SB) [.slice a4q317 D313.chunks.length k4q317] D313.chunks) ((H0s.addN hE311 (F := Rp (Shape.slice SB) [.slice a4q317 D313.chunks.length k4q317] D313.chunks) hf322).rp 0 rfl)
             have H := H.add (F := Rp (Shape.slice (Shape.int .i64)) [.slice a5q317 D313.nodes.length k5q317] D313.nodes) ((H0s.addN hE311 (F := Rp (Shape.slice (Shape.int .i64)) [.slice a5q317 D313.nodes.length k5q317] D313.nodes) hf323).rp 0 rfl)
             have H := H.add (F := Rp (Shape.slice (Shape.int .i64)) [.slice a6q317 D313.acks.length k6q317] D313.acks) ((H0s.addN hE311 (F := Rp (Shape.slice (Shape.int .i64)) [.slice a6q317 D313.acks.length k6q317] D313.acks) hf324).rp 0 rfl)
             have hkpD313 := gotOf_keep hlaw312
             have hlkD313 := congrArg List.length hkpD313.1
             intro hS
             refine qHP hS 3 [(16, .seq), (17, .qui)] [(2, .I n), (3, .slice b ys.length d), (11, .P b32 0), (12, .slice a16 ((msgsOf (bW xs k n)).length) c17), (18, .slice sa seen.length sc), (19, .I i), (20, .I z), (21, .I fr), (22, .P b306 0), (163, .agg (wrV D313 a3q317 k3q317 a4q317 k4q317 a5q317 k5q317 a6q317 k6q317).toArray), (164, .I D315)] ?_
             refine RH.sto ?_
             refine RW.storeC (d := none) (r := []) (T := 32) (b := b306) (k := 0) (v := .agg (wrV D313 a3q317 k3q317 a4q317 k4q317 a5q317 k5q317 a6q317 k6q317).toArray) (c' := (wrV D313 a3q317 k3q317 a4q317 k4q317 a5q317 k5q317 a6q317 k6q317).toArray) (M' := [(b306, .cells (wrV D313 a3q317 k3q317 a4q317 k4q317 a5q317 k5q317 a6q317 k6q317).toArray 32 (0, 0)), (b32, .cells (wrV D a3q k3q a4q k4q a5q k5q a6q k6q).toArray 32 (0, 0))]) (by as_aux_lemma => kernel_rfl) H 0 rfl (by as_aux_lemma => kernel_rfl) (by as_aux_lemma => kernel_rfl) ?_
             intro w329 hch328 H
             have hS330 := hS.sto hch328 (.inl hnb308)
             refine ⟨hS330, ?_⟩
             have hS := hS330
             refine RH.fin hS 1 [2, 3, 11, 12, 18, 19, 20, 21, 22, 23] [(2, .I n), (3, .slice b ys.length d), (11, .P b32 0), (12, .slice a16 ((msgsOf (bW xs k n)).length) c17), (18, .slice sa seen.length sc), (19, .I i), (20, .I z), (21, .I fr), (22, .P b306 0), (23, .I D315)] (by as_aux_lemma => kernel_rfl) ?_
             refine qR 2 [.c [11, 0, 1, 0, 0, 1, 0, 0, 5, 0, 0], .c [11, 0, 1, 0, 0, 1, 0, 0, 5, 0, 1], .c [11, 0, 1, 0, 0, 1, 0, 0, 6], .b 5, .c [11, 0, 1, 0, 0, 2], .l [11, 0, 1, 0, 0], .b 4, .c [12]] [(2, .I n), (3, .slice b ys.length d), (11, .P b32 0), (12, .slice a16 ((msgsOf (bW xs k n)).length) c17), (18, .slice sa seen.length sc), (19, .I i), (20, .I z), (21, .I fr), (22, .P b306 0), (23, .I D315)] ?_
             have H := H.pick [0, 1, 2, 3, 10, 11, 12, 13, 14, 15, 16, 17, 18, 19] rfl
             refine qG (sq 0 8) ?_
             refine qP 3 (sq 3 8) [(2, .I n), (3, .slice b ys.length d), (11, .P b32 0), (12, .slice a16 ((msgsOf (bW xs k n)).length) c17), (18, .slice sa seen.length sc), (19, .I i), (20, .I z), (22, .P b306 0), (23, .I D315), (167, .bool ((fr : Int) == 0))] ?_
             refine tE (fun b_ => [(2, .I n), (3, .slice b ys.length d), (11, .P b32 0), (12, .slice a16 ((msgsOf (bW xs k n)).length) c17), (18, .slice sa seen.length sc), (19, .I i), (20, .I z), (22, .P b306 0), (23, .I D315), (167, .bool b_)]) (fr : Int) 0 (fun h331 => ?_) (fun h331 => ?_)
             ·
              have hg9 : (D313, D315) = (bD xs k n (seenNext seen (z : Int) fr), (bD xs k n (seenNext seen (z : Int) fr)).done) := hlaw312.trans (by rw [hDe]; exact got_bD hkn hcn hsn hsr (bprep_head hkn hcn))
              obtain ⟨hD9, he9⟩ : D313 = bD xs k n (seenNext seen (z : Int) fr) ∧ D315 = (bD xs k n (seenNext seen (z : Int) fr)).done := by simpa using hg9
              have hse9 := sn_ok (fr := fr) hsn hsr hcn
              have hle9 := seen_le hse9.1 hse9.2
              refine qP 2 (sq 5 8) [(2, .I n), (3, .slice b ys.length d), (11, .P b32 0), (12, .slice a16 ((msgsOf (bW xs k n)).length) c17), (18, .slice sa seen.length sc), (19, .I i), (20, .I z), (22, .P b306 0), (23, .I D315), (167, .bool true), (168, .I z), (169, .slice sa seen.length sc)] ?_
              refine qK .seq (some 170) (sq 6 8) 24 #[.I z, .slice sa seen.length sc] (in12_spec (S := fun _ => True) (xs := seen) (z : Int) (H.view 0 rfl)) ?_
              rintro _ w332 hE333 rfl
              have H := H.ext hE333
              refine qF 2 [(2, .I n), (3, .slice b ys.length d), (11, .P b32 0), (12, .slice a16 ((msgsOf (bW xs k n)).length) c17), (18, .slice sa seen.length sc), (19, .I i), (20, .I z), (22, .P b306 0), (23, .I D315), (172, .bool (!(decide ((z : Int) ∈ seen))))] ?_
              refine qC (!(decide ((z : Int) ∈ seen))) (fun h334 => ?_) (fun h334 => ?_)
              ·
               replace h334 : (decide ((z : Int) ∈ seen)) = false := by revert h334; cases (decide ((z : Int) ∈ seen)) <;> simp
               replace h334 := of_decide_eq_false h334
               refine qG (sq 0 5) ?_
               refine qP 2 (sq 2 5) [(2, .I n), (3, .slice b ys.length d), (11, .P b32 0), (12, .slice a16 ((msgsOf (bW xs k n)).length) c17), (18, .slice sa seen.length sc), (19, .I i), (22, .P b306 0), (23, .I D315), (173, .slice sa seen.length sc), (174, .I z)] ?_
               refine RW.new (κ := .seq) (d := some 175) (r := (sq 3 5)) (o := .cells #[.I z] 3 (0, 0)) (v := fun b => .slice (some ⟨b, 0, none⟩) 1 1) (fun b => by as_aux_lemma => kernel_rfl) (nofun) H ?_
               intro b335 w336 H
               have H := H.freeze 0 rfl (Shape.int .i64) ([(z : Int)] : List Int) 1 (by simp [maxLen]) (by first | exact Nat.le_refl _ | simp) (EsP.cons (c := [.I z]) i64a EsP.nil)
               have H : Hp w S [] [(b306, .cells (wrV D313 a3q317 k3q317 a4q317 k4q317 a5q317 k5q317 a6q317 k6q317).toArray 32 (0, 0)), (b32, .cells (wrV D a3q k3q a4q k4q a5q k5q a6q k6q).toArray 32 (0, 0))] [⟨Shape.int .i64, 3, .slice sa seen.length sc, seen⟩] [Rp (Shape.slice (Shape.int .i64)) [.slice (some ⟨b335, 0, none⟩) 1 1] ([(z : Int)] : List Int), Rp (Shape.slice (Shape.int .i64)) [.slice a6q317 D313.acks.length k6q317] D313.acks, Rp (Shape.slice (Shape.int .i64)) [.slice a5q317 D313.nodes.length k5q317] D313.nodes, Rp (Shape.slice SB) [.slice a4q317 D313.chunks.length k4q317] D313.chunks, Rp (Shape.slice hdrS) [.slice a3q317 D313.heads.length k3q317] D313.heads, Rp (Shape.slice hdrS) [.slice a3q D.heads.length k3q] D.heads, Rp (Shape.slice SB) [.slice a4q D.chunks.length k4q] D.chunks, Rp (Shape.slice (Shape.int .i64)) [.slice a5q D.nodes.length k5q] D.nodes, Rp (Shape.slice (Shape.int .i64)) [.slice a6q D.acks.length k6q] D.acks, Rp SB [.slice a198 xs.length c199] xs, Rp (Shape.slice pcS) [.slice ao (pcs xs k n).length co] (pcs xs k n), Rp (Shape.slice msgS) [.slice a16 ((msgsOf (bW xs k n)).length) c17] (msgsOf (bW xs k n)), Rp (Shape.slice (Shape.int .i64)) [.slice na (nodesA n).length nc] (nodesA n), Rp SB [.slice a xs.length c] xs, Rp (Shape.slice (Shape.int .i64)) [.slice b ys.length d] ys] _ := H
               refine RW.appendW (d := some 176) (r := (sq 4 5)) (T := 25) (ty := 25) (e := 3) (m := 1) (by_ := 8) (v := .slice sa seen.length sc) (a2 := (some ⟨b335, 0, none⟩)) (l2 := 1) (c2 := 1) (zs := seen ++ ([(z : Int)] : List Int)) (by as_aux_lemma => kernel_rfl) (by as_aux_lemma => kernel_rfl) rfl H 0 rfl 0 rfl (rfl) (by simp only [List.length_append, List.length_cons, List.length_nil]; omega) ?_
               intro a337 c338 w340 H hc339
               have H : Hp w S [] [(b306, .cells (wrV D313 a3q317 k3q317 a4q317 k4q317 a5q317 k5q317 a6q317 k6q317).toArray 32 (0, 0)), (b32, .cells (wrV D a3q k3q a4q k4q a5q k5q a6q k6q).toArray 32 (0, 0))] [⟨Shape.int .i64, 3, .slice a337 ((seen ++ ([(z : Int)] : List Int)).length) c338, seen ++ ([(z : Int)] : List Int)⟩] [Rp (Shape.slice (Shape.int .i64)) [.slice (some ⟨b335, 0, none⟩) 1 1] ([(z : Int)] : List Int), Rp (Shape.slice (Shape.int .i64)) [.slice a6q317 D313.acks.length k6q317] D313.acks, Rp (Shape.slice (Shape.int .i64)) [.slice a5q317 D313.nodes.length k5q317] D313.nodes, Rp (Shape.slice SB) [.slice a4q317 D313.chunks.length k4q317] D313.chunks, Rp (Shape.slice hdrS) [.slice a3q317 D313.heads.length k3q317] D313.heads, Rp (Shape.slice hdrS) [.slice a3q D.heads.length k3q] D.heads, Rp (Shape.slice SB) [.slice a4q D.chunks.length k4q] D.chunks, Rp (Shape.slice (Shape.int .i64)) [.slice a5q D.nodes.length k5q] D.nodes, Rp (Shape.slice (Shape.int .i64)) [.slice a6q D.acks.length k6q] D.acks, Rp SB [.slice a198 xs.length c199] xs, Rp (Shape.slice pcS) [.slice ao (pcs xs k n).length co] (pcs xs k n), Rp (Shape.slice msgS) [.slice a16 ((msgsOf (bW xs k n)).length) c17] (msgsOf (bW xs k n)), Rp (Shape.slice (Shape.int .i64)) [.slice na (nodesA n).length nc] (nodesA n), Rp SB [.slice a xs.length c] xs, Rp (Shape.slice (Shape.int .i64)) [.slice b ys.length d] ys] _ := H
               refine qF 1 [(2, .I n), (3, .slice b ys.length d), (11, .P b32 0), (12, .slice a16 ((msgsOf (bW xs k n)).length) c17), (18, .slice a337 ((seen ++ ([(z : Int)] : List Int)).length) c338), (19, .I i), (22, .P b306 0), (23, .I D315)] ?_
               refine qR 2 [.c [11, 0, 1, 0, 0, 1, 0, 0, 6, 0, 0], .c [11, 0, 1, 0, 0, 1, 0, 0, 6, 0, 1], .c [11, 0, 1, 0, 0, 1, 0, 0, 7], .b 5, .c [11, 0, 1, 0, 0, 2], .l [11, 0, 1, 0, 0], .b 4, .c [12]] [(2, .I n), (3, .slice b ys.length d), (11, .P b32 0), (12, .slice a16 ((msgsOf (bW xs k n)).length) c17), (18, .slice a337 ((seen ++ ([(z : Int)] : List Int)).length) c338), (19, .I i), (22, .P b306 0), (23, .I D315)] ?_
               have H := H.pick [1, 2, 3, 4, 5, 6, 7, 8, 9, 10, 11, 12, 13, 14] rfl
               refine qG (sq 0 11) ?_
               refine qP 8 (sq 8 11) [(2, .I n), (3, .slice b ys.length d), (11, .P b32 0), (12, .slice a16 ((msgsOf (bW xs k n)).length) c17), (18, .slice a337 ((seen ++ ([(z : Int)] : List Int)).length) c338), (19, .I i), (22, .P b306 0), (23, .I D315), (184, .bool (!((D315 == 1) == ((((seen ++ ([(z : Int)] : List Int)).length : Nat) : Int) == (n : Int)))))] ?_
               refine RW.test (fun b_ => [(2, .I n), (3, .slice b ys.length d), (11, .P b32 0), (12, .slice a16 ((msgsOf (bW xs k n)).length) c17), (18, .slice a337 ((seen ++ ([(z : Int)] : List Int)).length) c338), (19, .I i), (22, .P b306 0), (23, .I D315), (184, .bool b_)]) (!((D315 == 1) == ((((seen ++ ([(z : Int)] : List Int)).length : Nat) : Int) == (n : Int)))) (fun h341 => ?_) (fun h341 => ?_)
               ·
                replace h341 : (((D315 == 1) == ((((seen ++ ([(z : Int)] : List Int)).length : Nat) : Int) == (n : Int)))) = false := by revert h341; cases (((D315 == 1) == ((((seen ++ ([(z : Int)] : List Int)).length : Nat) : Int) == (n : Int)))) <;> simp
                replace h341 := ne_of_beq_false h341
                have hv9 : D315 = if (seen ++ ([(z : Int)] : List Int)).length = n then 1 else 0 := by
                 rw [he9]
                 first | rw [← sn_yes (by omega) (by assumption)]; rfl | rw [← sn_no1 (by omega)]; rfl | rw [← sn_no2 (by assumption)]; rfl
                exact absurd (all_v hv9) h341
               ·
                replace h341 : (((D315 == 1) == ((((seen ++ ([(z : Int)] : List Int)).length : Nat) : Int) == (n : Int)))) = true := by revert h341; cases (((D315 == 1) == ((((seen ++ ([(z : Int)] : List Int)).length : Nat) : Int) == (n : Int)))) <;> simp
                replace h341 := eq_of_beq h341
                refine qF 3 [(2, .I n), (3, .slice b ys.length d), (11, .P b32 0), (12, .slice a16 ((msgsOf (bW xs k n)).length) c17), (18, .slice a337 ((seen ++ ([(z : Int)] : List Int)).length) c338), (19, .I i), (22, .P b306 0), (187, .bool (D315 == 2))] ?_
                refine qE D315 2 (fun h342 => ?_) (fun h342 => ?_)
                ·
                 have hv9 : D315 = if (seen ++ ([(z : Int)] : List Int)).length = n then 1 else 0 := by
                  rw [he9]
                  first | rw [← sn_yes (by omega) (by assumption)]; rfl | rw [← sn_no1 (by omega)]; rfl | rw [← sn_no2 (by assumption)]; rfl
                 exact absurd h342 (all_v2 hv9)
                ·
                 refine qR 1 [.c [11, 0, 1, 0, 0, 1, 0, 0, 7], .b 5, .c [11, 0, 1, 0, 0, 2], .l [11, 0, 1, 0, 0], .b 4, .c [12]] [(2, .I n), (3, .slice b ys.length d), (11, .P b32 0), (12, .slice a16 ((msgsOf (bW xs k n)).length) c17), (18, .slice a337 ((seen ++ ([(z : Int)] : List Int)).length) c338), (19, .I i), (22, .P b306 0)] ?_
                 refine qG (sq 0 2) ?_
                 refine qL .seq 188 (sq 1 2) 32 b306 0 0 (.agg (wrV D313 a3q317 k3q317 a4q317 k4q317 a5q317 k5q317 a6q317 k6q317).toArray) (H.cells 0 rfl) ?_
                 refine RW.store (d := none) (r := (sq 2 2)) (T := 32) (b := b32) (k := 0) (v := .agg (wrV D313 a3q317 k3q317 a4q317 k4q317 a5q317 k5q317 a6q317 k6q317).toArray) (c' := (wrV D313 a3q317 k3q317 a4q317 k4q317 a5q317 k5q317 a6q317 k6q317).toArray) (M' := [(b306, .cells (wrV D313 a3q317 k3q317 a4q317 k4q317 a5q317 k5q317 a6q317 k6q317).toArray 32 (0, 0)), (b32, .cells (wrV D313 a3q317 k3q317 a4q317 k4q317 a5q317 k5q317 a6q317 k6q317).toArray 32 (0, 0))]) (by as_aux_lemma => kernel_rfl) H 1 rfl (by as_aux_lemma => kernel_rfl) (by as_aux_lemma => kernel_rfl) ?_
                 intro w343 H
                 refine qF 0 [(2, .I n), (3, .slice b ys.length d), (11, .P b32 0), (12, .slice a16 ((msgsOf (bW xs k n)).length) c17), (18, .slice a337 ((seen ++ ([(z : Int)] : List Int)).length) c338), (19, .I i)] ?_
                 refine qR 1 [.c [11, 0, 1, 0, 0, 2], .l [11, 0, 1, 0, 0], .b 4, .c [12]] [(2, .I n), (3, .slice b ys.length d), (11, .P b32 0), (12, .slice a16 ((msgsOf (bW xs k n)).length) c17), (18, .slice a337 ((seen ++ ([(z : Int)] : List Int)).length) c338), (19, .I i)] ?_
                 have H := H.dropM 0
                 refine qG (sq 0 3) ?_
                 refine qP 1 (sq 1 3) [(2, .I n), (3, .slice b ys.length d), (11, .P b32 0), (12, .slice a16 ((msgsOf (bW xs k n)).length) c17), (18, .slice a337 ((seen ++ ([(z : Int)] : List Int)).length) c338), (19, .I i), (137, .I i)] ?_
                 refine qI .seq 138 (sq 2 3) ((i : Int) + 1) ?_
                 refine qF 1 [(2, .I n), (3, .slice b ys.length d), (11, .P b32 0), (12, .slice a16 ((msgsOf (bW xs k n)).length) c17), (18, .slice a337 ((seen ++ ([(z : Int)] : List Int)).length) c338), (19, .I ((i : Int) + 1))] ?_
                 have H := H.pick [3, 2, 1, 0, 8, 9, 10, 11, 12, 13] (G' := [Rp (Shape.slice hdrS) [.slice a3q317 D313.heads.length k3q317] D313.heads, Rp (Shape.slice SB) [.slice a4q317 D313.chunks.length k4q317] D313.chunks, Rp (Shape.slice (Shape.int .i64)) [.slice a5q317 D313.nodes.length k5q317] D313.nodes, Rp (Shape.slice (Shape.int .i64)) [.slice a6q317 D313.acks.length k6q317] D313.acks, Rp SB [.slice a198 xs.length c199] xs, Rp (Shape.slice pcS) [.slice ao (pcs xs k n).length co] (pcs xs k n), Rp (Shape.slice msgS) [.slice a16 ((msgsOf (bW xs k n)).length) c17] (msgsOf (bW xs k n)), Rp (Shape.slice (Shape.int .i64)) [.slice na (nodesA n).length nc] (nodesA n), Rp SB [.slice a xs.length c] xs, Rp (Shape.slice (Shape.int .i64)) [.slice b ys.length d] ys]) rfl
                 exact WK.back (hback206 (i + 1, D313, seen ++ ([(z : Int)] : List Int), a3q317, k3q317, a4q317, k4q317, a5q317, k5q317, a6q317, k6q317, a337, c338) _ ⟨H, by omega, by first | (rw [hD9, ← sn_yes (by omega) (by assumption)]) | (rw [hD9, ← sn_no1 (by omega)]) | (rw [hD9, ← sn_no2 (by assumption)]), by first | (rw [sn_yes (fr := fr) (by omega) (by assumption)]; exact hse9.1) | exact hsn, by first | (rw [sn_yes (fr := fr) (by omega) (by assumption)]; exact hse9.2) | exact hsr⟩ (by simp only []; omega)) (by as_aux_lemma => kernel_rfl)
              ·
               replace h334 : (decide ((z : Int) ∈ seen)) = true := by revert h334; cases (decide ((z : Int) ∈ seen)) <;> simp
               replace h334 := of_decide_eq_true h334
               refine qR 3 [.c [11, 0, 1, 0, 0, 1, 0, 0, 6, 0, 0], .c [11, 0, 1, 0, 0, 1, 0, 0, 6, 0, 1], .c [11, 0, 1, 0, 0, 1, 0, 0, 7], .b 5, .c [11, 0, 1, 0, 0, 2], .l [11, 0, 1, 0, 0], .b 4, .c [12]] [(2, .I n), (3, .slice b ys.length d), (11, .P b32 0), (12, .slice a16 ((msgsOf (bW xs k n)).length) c17), (18, .slice sa seen.length sc), (19, .I i), (22, .P b306 0), (23, .I D315)] ?_
               refine qG (sq 0 11) ?_
               refine qP 8 (sq 8 11) [(2, .I n), (3, .slice b ys.length d), (11, .P b32 0), (12, .slice a16 ((msgsOf (bW xs k n)).length) c17), (18, .slice sa seen.length sc), (19, .I i), (22, .P b306 0), (23, .I D315), (184, .bool (!((D315 == 1) == (((seen.length : Nat) : Int) == (n : Int)))))] ?_
               refine RW.test (fun b_ => [(2, .I n), (3, .slice b ys.length d), (11, .P b32 0), (12, .slice a16 ((msgsOf (bW xs k n)).length) c17), (18, .slice sa seen.length sc), (19, .I i), (22, .P b306 0), (23, .I D315), (184, .bool b_)]) (!((D315 == 1) == (((seen.length : Nat) : Int) == (n : Int)))) (fun h344 => ?_) (fun h344 => ?_)
               ·
                replace h344 : (((D315 == 1) == (((seen.length : Nat) : Int) == (n : Int)))) = false := by revert h344; cases (((D315 == 1) == (((seen.length : Nat) : Int) == (n : Int)))) <;> simp
                replace h344 := ne_of_beq_false h344
                have hv9 : D315 = if (seen).length = n then 1 else 0 := by
                 rw [he9]
                 first | rw [← sn_yes (by omega) (by assumption)]; rfl | rw [← sn_no1 (by omega)]; rfl | rw [← sn_no2 (by assumption)]; rfl
                exact absurd (all_v hv9) h344
               ·
                replace h344 : (((D315 == 1) == (((seen.length : Nat) : Int) == (n : Int)))) = true := by revert h344; cases (((D315 == 1) == (((seen.length : Nat) : Int) == (n : Int)))) <;> simp
                replace h344 := eq_of_beq h344
                refine qF 3 [(2, .I n), (3, .slice b ys.length d), (11, .P b32 0), (12, .slice a16 ((msgsOf (bW xs k n)).length) c17), (18, .slice sa seen.length sc), (19, .I i), (22, .P b306 0), (187, .bool (D315 == 2))] ?_
                refine qE D315 2 (fun h345 => ?_) (fun h345 => ?_)
                ·
                 have hv9 : D315 = if (seen).length = n then 1 else 0 := by
                  rw [he9]
                  first | rw [← sn_yes (by omega) (by assumption)]; rfl | rw [← sn_no1 (by omega)]; rfl | rw [← sn_no2 (by assumption)]; rfl
                 exact absurd h345 (all_v2 hv9)
                ·
                 refine qR 1 [.c [11, 0, 1, 0, 0, 1, 0, 0, 7], .b 5, .c [11, 0, 1, 0, 0, 2], .l [11, 0, 1, 0, 0], .b 4, .c [12]] [(2, .I n), (3, .slice b ys.length d), (11, .P b32 0), (12, .slice a16 ((msgsOf (bW xs k n)).length) c17), (18, .slice sa seen.length sc), (19, .I i), (22, .P b306 0)] ?_
                 refine qG (sq 0 2) ?_
                 refine qL .seq 188 (sq 1 2) 32 b306 0 0 (.agg (wrV D313 a3q317 k3q317 a4q317 k4q317 a5q317 k5q317 a6q317 k6q317).toArray) (H.cells 0 rfl) ?_
                 refine RW.store (d := none) (r := (sq 2 2)) (T := 32) (b := b32) (k := 0) (v := .agg (wrV D313 a3q317 k3q317 a4q317 k4q317 a5q317 k5q317 a6q317 k6q317).toArray) (c' := (wrV D313 a3q317 k3q317 a4q317 k4q317 a5q317 k5q317 a6q317 k6q317).toArray) (M' := [(b306, .cells (wrV D313 a3q317 k3q317 a4q317 k4q317 a5q317 k5q317 a6q317 k6q317).toArray 32 (0, 0)), (b32, .cells (wrV D313 a3q317 k3q317 a4q317 k4q317 a5q317 k5q317 a6q317 k6q317).toArray 32 (0, 0))]) (by as_aux_lemma => kernel_rfl) H 1 rfl (by as_aux_lemma => kernel_rfl) (by as_aux_lemma => kernel_rfl) ?_
                 intro w346 H
                 refine qF 0 [(2, .I n), (3, .slice b ys.length d), (11, .P b32 0), (12, .slice a16 ((msgsOf (bW xs k n)).length) c17), (18, .slice sa seen.length sc), (19, .I i)] ?_
                 refine qR 1 [.c [11, 0, 1, 0, 0, 2], .l [11, 0, 1, 0, 0], .b 4, .c [12]] [(2, .I n), (3, .slice b ys.length d), (11, .P b32 0), (12, .slice a16 ((msgsOf (bW xs k n)).length) c17), (18, .slice sa seen.length sc), (19, .I i)] ?_
                 have H := H.dropM 0
                 refine qG (sq 0 3) ?_
                 refine qP 1 (sq 1 3) [(2, .I n), (3, .slice b ys.length d), (11, .P b32 0), (12, .slice a16 ((msgsOf (bW xs k n)).length) c17), (18, .slice sa seen.length sc), (19, .I i), (137, .I i)] ?_
                 refine qI .seq 138 (sq 2 3) ((i : Int) + 1) ?_
                 refine qF 1 [(2, .I n), (3, .slice b ys.length d), (11, .P b32 0), (12, .slice a16 ((msgsOf (bW xs k n)).length) c17), (18, .slice sa seen.length sc), (19, .I ((i : Int) + 1))] ?_
                 have H := H.pick [3, 2, 1, 0, 8, 9, 10, 11, 12, 13] (G' := [Rp (Shape.slice hdrS) [.slice a3q317 D313.heads.length k3q317] D313.heads, Rp (Shape.slice SB) [.slice a4q317 D313.chunks.length k4q317] D313.chunks, Rp (Shape.slice (Shape.int .i64)) [.slice a5q317 D313.nodes.length k5q317] D313.nodes, Rp (Shape.slice (Shape.int .i64)) [.slice a6q317 D313.acks.length k6q317] D313.acks, Rp SB [.slice a198 xs.length c199] xs, Rp (Shape.slice pcS) [.slice ao (pcs xs k n).length co] (pcs xs k n), Rp (Shape.slice msgS) [.slice a16 ((msgsOf (bW xs k n)).length) c17] (msgsOf (bW xs k n)), Rp (Shape.slice (Shape.int .i64)) [.slice na (nodesA n).length nc] (nodesA n), Rp SB [.slice a xs.length c] xs, Rp (Shape.slice (Shape.int .i64)) [.slice b ys.length d] ys]) rfl
                 exact WK.back (hback206 (i + 1, D313, seen, a3q317, k3q317, a4q317, k4q317, a5q317, k5q317, a6q317, k6q317, sa, sc) _ ⟨H, by omega, by first | (rw [hD9, ← sn_yes (by omega) (by assumption)]) | (rw [hD9, ← sn_no1 (by omega)]) | (rw [hD9, ← sn_no2 (by assumption)]), by first | (rw [sn_yes (fr := fr) (by omega) (by assumption)]; exact hse9.1) | exact hsn, by first | (rw [sn_yes (fr := fr) (by omega) (by assumption)]; exact hse9.2) | exact hsr⟩ (by simp only []; omega)) (by as_aux_lemma => kernel_rfl)
             ·
              have hg9 : (D313, D315) = (bD xs k n (seenNext seen (z : Int) fr), (bD xs k n (seenNext seen (z : Int) fr)).done) := hlaw312.trans (by rw [hDe]; exact got_bD hkn hcn hsn hsr (bprep_head hkn hcn))
              obtain ⟨hD9, he9⟩ : D313 = bD xs k n (seenNext seen (z : Int) fr) ∧ D315 = (bD xs k n (seenNext seen (z : Int) fr)).done := by simpa using hg9
              have hse9 := sn_ok (fr := fr) hsn hsr hcn
              have hle9 := seen_le hse9.1 hse9.2
              refine qF 5 [(2, .I n), (3, .slice b ys.length d), (11, .P b32 0), (12, .slice a16 ((msgsOf (bW xs k n)).length) c17), (18, .slice sa seen.length sc), (19, .I i), (20, .I z), (22, .P b306 0), (23, .I D315), (172, .bool false)] ?_
              refine qR 4 [.c [11, 0, 1, 0, 0, 1, 0, 0, 6, 0, 0], .c [11, 0, 1, 0, 0, 1, 0, 0, 6, 0, 1], .c [11, 0, 1, 0, 0, 1, 0, 0, 7], .b 5, .c [11, 0, 1, 0, 0, 2], .l [11, 0, 1, 0, 0], .b 4, .c [12]] [(2, .I n), (3, .slice b ys.length d), (11, .P b32 0), (12, .slice a16 ((msgsOf (bW xs k n)).length) c17), (18, .slice sa seen.length sc), (19, .I i), (22, .P b306 0), (23, .I D315)] ?_
              refine qG (sq 0 11) ?_
              refine qP 8 (sq 8 11) [(2, .I n), (3, .slice b ys.length d), (11, .P b32 0), (12, .slice a16 ((msgsOf (bW xs k n)).length) c17), (18, .slice sa seen.length sc), (19, .I i), (22, .P b306 0), (23, .I D315), (184, .bool (!((D315 == 1) == (((seen.length : Nat) : Int) == (n : Int)))))] ?_
              refine RW.test (fun b_ => [(2, .I n), (3, .slice b ys.length d), (11, .P b32 0), (12, .slice a16 ((msgsOf (bW xs k n)).length) c17), (18, .slice sa seen.length sc), (19, .I i), (22, .P b306 0), (23, .I D315), (184, .bool b_)]) (!((D315 == 1) == (((seen.length : Nat) : Int) == (n : Int)))) (fun h347 => ?_) (fun h347 => ?_)
              ·
               replace h347 : (((D315 == 1) == (((seen.length : Nat) : Int) == (n : Int)))) = false := by revert h347; cases (((D315 == 1) == (((seen.length : Nat) : Int) == (n : Int)))) <;> simp
               replace h347 := ne_of_beq_false h347
               have hv9 : D315 = if (seen).length = n then 1 else 0 := by
                rw [he9]
                first | rw [← sn_yes (by omega) (by assumption)]; rfl | rw [← sn_no1 (by omega)]; rfl | rw [← sn_no2 (by assumption)]; rfl
               exact absurd (all_v hv9) h347
              ·
               replace h347 : (((D315 == 1) == (((seen.length : Nat) : Int) == (n : Int)))) = true := by revert h347; cases (((D315 == 1) == (((seen.length : Nat) : Int) == (n : Int)))) <;> simp
               replace h347 := eq_of_beq h347
               refine qF 3 [(2, .I n), (3, .slice b ys.length d), (11, .P b32 0), (12, .slice a16 ((msgsOf (bW xs k n)).length) c17), (18, .slice sa seen.length sc), (19, .I i), (22, .P b306 0), (187, .bool (D315 == 2))] ?_
               refine qE D315 2 (fun h348 => ?_) (fun h348 => ?_)
               ·
                have hv9 : D315 = if (seen).length = n then 1 else 0 := by
                 rw [he9]
                 first | rw [← sn_yes (by omega) (by assumption)]; rfl | rw [← sn_no1 (by omega)]; rfl | rw [← sn_no2 (by assumption)]; rfl
                exact absurd h348 (all_v2 hv9)
               ·
                refine qR 1 [.c [11, 0, 1, 0, 0, 1, 0, 0, 7], .b 5, .c [11, 0, 1, 0, 0, 2], .l [11, 0, 1, 0, 0], .b 4, .c [12]] [(2, .I n), (3, .slice b ys.length d), (11, .P b32 0), (12, .slice a16 ((msgsOf (bW xs k n)).length) c17), (18, .slice sa seen.length sc), (19, .I i), (22, .P b306 0)] ?_
                refine qG (sq 0 2) ?_
                refine qL .seq 188 (sq 1 2) 32 b306 0 0 (.agg (wrV D313 a3q317 k3q317 a4q317 k4q317 a5q317 k5q317 a6q317 k6q317).toArray) (H.cells 0 rfl) ?_
                refine RW.store (d := none) (r := (sq 2 2)) (T := 32) (b := b32) (k := 0) (v := .agg (wrV D313 a3q317 k3q317 a4q317 k4q317 a5q317 k5q317 a6q317 k6q317).toArray) (c' := (wrV D313 a3q317 k3q317 a4q317 k4q317 a5q317 k5q317 a6q317 k6q317).toArray) (M' := [(b306, .cells (wrV D313 a3q317 k3q317 a4q317 k4q317 a5q317 k5q317 a6q317 k6q317).toArray 32 (0, 0)), (b32, .cells (wrV D313 a3q317 k3q317 a4q317 k4q317 a5q317 k5q317 a6q317 k6q317).toArray 32 (0, 0))]) (by as_aux_lemma => kernel_rfl) H 1 rfl (by as_aux_lemma => kernel_rfl) (by as_aux_lemma => kernel_rfl) ?_
                intro w349 H
                refine qF 0 [(2, .I n), (3, .slice b ys.length d), (11, .P b32 0), (12, .slice a16 ((msgsOf (bW xs k n)).length) c17), (18, .slice sa seen.length sc), (19, .I i)] ?_
                refine qR 1 [.c [11, 0, 1, 0, 0, 2], .l [11, 0, 1, 0, 0], .b 4, .c [12]] [(2, .I n), (3, .slice b ys.length d), (11, .P b32 0), (12, .slice a16 ((msgsOf (bW xs k n)).length) c17), (18, .slice sa seen.length sc), (19, .I i)] ?_
                have H := H.dropM 0
                refine qG (sq 0 3) ?_
                refine qP 1 (sq 1 3) [(2, .I n), (3, .slice b ys.length d), (11, .P b32 0), (12, .slice a16 ((msgsOf (bW xs k n)).length) c17), (18, .slice sa seen.length sc), (19, .I i), (137, .I i)] ?_
                refine qI .seq 138 (sq 2 3) ((i : Int) + 1) ?_
                refine qF 1 [(2, .I n), (3, .slice b ys.length d), (11, .P b32 0), (12, .slice a16 ((msgsOf (bW xs k n)).length) c17), (18, .slice sa seen.length sc), (19, .I ((i : Int) + 1))] ?_
                have H := H.pick [3, 2, 1, 0, 8, 9, 10, 11, 12, 13] (G' := [Rp (Shape.slice hdrS) [.slice a3q317 D313.heads.length k3q317] D313.heads, Rp (Shape.slice SB) [.slice a4q317 D313.chunks.length k4q317] D313.chunks, Rp (Shape.slice (Shape.int .i64)) [.slice a5q317 D313.nodes.length k5q317] D313.nodes, Rp (Shape.slice (Shape.int .i64)) [.slice a6q317 D313.acks.length k6q317] D313.acks, Rp SB [.slice a198 xs.length c199] xs, Rp (Shape.slice pcS) [.slice ao (pcs xs k n).length co] (pcs xs k n), Rp (Shape.slice msgS) [.slice a16 ((msgsOf (bW xs k n)).length) c17] (msgsOf (bW xs k n)), Rp (Shape.slice (Shape.int .i64)) [.slice na (nodesA n).length nc] (nodesA n), Rp SB [.slice a xs.length c] xs, Rp (Shape.slice (Shape.int .i64)) [.slice b ys.length d] ys]) rfl
                exact WK.back (hback206 (i + 1, D313, seen, a3q317, k3q317, a4q317, k4q317, a5q317, k5q317, a6q317, k6q317, sa, sc) _ ⟨H, by omega, by first | (rw [hD9, ← sn_yes (by omega) (by assumption)]) | (rw [hD9, ← sn_no1 (by omega)]) | (rw [hD9, ← sn_no2 (by assumption)]), by first | (rw [sn_yes (fr := fr) (by omega) (by assumption)]; exact hse9.1) | exact hsn, by first | (rw [sn_yes (fr := fr) (by omega) (by assumption)]; exact hse9.2) | exact hsr⟩ (by simp only []; omega)) (by as_aux_lemma => kernel_rfl)
          ·
           rw [hbj210] at h212
           replace h212 := of_decide_eq_false h212
           refine qR 2 [.c [12, 0], .c [13]] [] ?_
           refine qG (sq 0 2) ?_
           refine qK .seq (some 189) (sq 1 2) 22 #[] (heads_spec (S := fun _ => True)) ?_
           rintro _ w350 hE351 rfl
           have H := H.ext hE351
           refine qF 1 [(8, .bool true)] ?_
           refine qT (.bool true) Try.func12 ?_
           exact ⟨_, rfl, H.done, rfl⟩


end Go.Proofs.Ytppcdmbkgficiaa
