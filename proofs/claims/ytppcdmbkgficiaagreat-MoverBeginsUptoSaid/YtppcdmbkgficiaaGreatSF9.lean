import Derived.Test.YtppcdmbkgficiaaGreatSF7
import Derived.Test.YtppcdmbkgficiaaGreatSBxB
namespace Go.Proofs.YtppcdmbkgficiaaGreat
open Go.BX
theorem bit1_zero {c : BitVec 32} (h : bit1 c = 0#32) : c = 0#32 := by
 rw [bit1_eq] at h
 have a := congrArg (fun x : BitVec 32 => x.getLsbD 31) h
 have hl : c.getLsbD 0 = false := by
  cases hc : c.getLsbD 0
  · rfl
  · rw [hc] at a
    simp at a
 rw [hl] at h
 simp only [Bool.false_eq_true, if_false, BitVec.xor_zero] at h
 apply BitVec.eq_of_getLsbD_eq
 intro i hi
 rw [BitVec.getLsbD_zero]
 cases i with
 | zero => exact hl
 | succ j =>
  have := congrArg (fun x : BitVec 32 => x.getLsbD j) h
  simpa [BitVec.getLsbD_ushiftRight, Nat.add_comm] using this
theorem bits_nil : ∀ n : Nat, bits n 0#32 = 0#32
 | 0 => rfl
 | n + 1 => by
  show bit1 (bits n 0#32) = _
  rw [bits_nil n]; decide
theorem bits_zero : ∀ (n : Nat) {c : BitVec 32}, bits n c = 0#32 → c = 0#32
 | 0, _, h => h
 | n + 1, _, h => bits_zero n (bit1_zero h)
theorem bits_in : ∀ (n : Nat) (c : BitVec 32), bits (n + 1) c = bits n (bit1 c)
 | 0, _ => rfl
 | n + 1, c => by
  show bit1 (bits (n + 1) c) = bit1 (bits n (bit1 c))
  rw [bits_in n]
def stepB (c : BitVec 32) (b : Bool) : BitVec 32 := bit1 (c ^^^ (if b then 1#32 else 0#32))
theorem bits_stream : ∀ (n : Nat) (c x : BitVec 32), n ≤ 32 → (∀ i, n ≤ i → x.getLsbD i = false) → bits n (c ^^^ x) = ((List.range n).map fun i => x.getLsbD i).foldl stepB c
 | 0, c, x, _, hx => by
  have : x = 0#32 := by
   apply BitVec.eq_of_getLsbD_eq
   intro i hi
   rw [hx i (Nat.zero_le _), BitVec.getLsbD_zero]
  rw [this, BitVec.xor_zero]; rfl
 | n + 1, c, x, hn, hx => by
  rw [bits_in]
  have e : bit1 (c ^^^ x) = stepB c (x.getLsbD 0) ^^^ (x >>> 1) := by
   unfold stepB
   rw [bit1_xor, bit1_xor, BitVec.xor_assoc]
   congr 1
   rw [bit1_eq, bit1_eq]
   cases hb : x.getLsbD 0
   · simp
   · simp only [if_true]
     rw [show (1#32).getLsbD 0 = true from rfl]
     simp only [if_true]
     rw [show (1#32) >>> 1 = 0#32 from rfl, BitVec.zero_xor, BitVec.xor_comm]
  rw [e, bits_stream n _ _ (by omega) (fun i hi => by rw [BitVec.getLsbD_ushiftRight]; exact hx _ (by omega))]
  rw [List.range_succ_eq_map, List.map_cons, List.foldl_cons, List.map_map]
  congr 1
  apply List.map_congr_left
  intro i _
  simp [BitVec.getLsbD_ushiftRight, Nat.add_comm]
def bitsOf (xs : List (BitVec 8)) : List Bool := xs.flatMap fun x => (List.range 8).map fun i => x.getLsbD i
theorem crcStep_bits (c : BitVec 32) (x : BitVec 8) : crcStep c x = ((List.range 8).map fun i => x.getLsbD i).foldl stepB c := by
 unfold crcStep
 rw [bits_stream 8 c _ (by decide) (fun i hi => by rw [BitVec.getLsbD_setWidth, BitVec.getLsbD_of_ge x i hi, Bool.and_false])]
 congr 1
theorem fold_bits : ∀ (xs : List (BitVec 8)) (c : BitVec 32), xs.foldl crcStep c = (bitsOf xs).foldl stepB c
 | [], _ => rfl
 | x :: xs, c => by
  show xs.foldl crcStep (crcStep c x) = ((((List.range 8).map fun i => x.getLsbD i)) ++ bitsOf xs).foldl stepB c
  rw [List.foldl_append, ← crcStep_bits, fold_bits xs]
theorem bitsOf_len : ∀ xs : List (BitVec 8), (bitsOf xs).length = 8 * xs.length
 | [] => rfl
 | x :: xs => by
  show ((((List.range 8).map fun i => x.getLsbD i)) ++ bitsOf xs).length = _
  rw [List.length_append, bitsOf_len xs, List.length_map, List.length_range, List.length_cons]; omega
def bitD (xs : List (BitVec 8)) (q : Nat) : Bool := (xs.getD (q / 8) 0#8).getLsbD (q % 8)
theorem bitsOf_at : ∀ (xs : List (BitVec 8)) (q : Nat), q < 8 * xs.length → (bitsOf xs)[q]? = some (bitD xs q)
 | [], _, h => absurd h (by simp)
 | x :: xs, q, h => by
  show ((((List.range 8).map fun i => x.getLsbD i)) ++ bitsOf xs)[q]? = _
  by_cases h8 : q < 8
  · rw [List.getElem?_append_left (by simpa using h8), List.getElem?_map, List.getElem?_range h8]
    unfold bitD
    rw [show q / 8 = 0 by omega, show q % 8 = q by omega]; rfl
  · rw [List.getElem?_append_right (by simp; omega), List.length_map, List.length_range, bitsOf_at xs (q - 8) (by rw [List.length_cons] at h; omega)]
    unfold bitD
    rw [show q / 8 = (q - 8) / 8 + 1 by omega, show q % 8 = (q - 8) % 8 by omega]; rfl
theorem fold_falses : ∀ (n : Nat) (c : BitVec 32), (List.replicate n false).foldl stepB c = bits n c
 | 0, _ => rfl
 | n + 1, c => by
  rw [List.replicate_succ, List.foldl_cons, fold_falses n, bits_in]
  congr 1
  unfold stepB
  simp
theorem burst {δ : List (BitVec 8)} {at_ n : Nat} {m : BitVec 32} (hn : n ≤ 32) (hat : at_ + n ≤ 8 * δ.length) (hb : ∀ q, q < 8 * δ.length → bitD δ q = (decide (at_ ≤ q ∧ q < at_ + n) && m.getLsbD (q - at_)))
 (h : δ.foldl crcStep 0#32 = 0#32) : ∀ i < n, m.getLsbD i = false := by
 obtain ⟨x, hx⟩ : ∃ x : BitVec 32, ∀ i, x.getLsbD i = (decide (i < n) && m.getLsbD i) := by
  refine ⟨(m.setWidth n).setWidth 32, fun i => ?_⟩
  rw [BitVec.getLsbD_setWidth, BitVec.getLsbD_setWidth]
  by_cases hi : i < n
  · rw [decide_eq_true (show i < 32 by omega), Bool.true_and]
  · rw [decide_eq_false hi, Bool.false_and, Bool.and_false]
 have e : bitsOf δ = List.replicate at_ false ++ ((List.range n).map fun i => x.getLsbD i) ++ List.replicate (8 * δ.length - at_ - n) false := by
  apply List.ext_getElem?
  intro q
  by_cases hq : q < 8 * δ.length
  · rw [bitsOf_at δ q hq, hb q hq]
    by_cases h1 : q < at_
    · have hd : decide (at_ ≤ q ∧ q < at_ + n) = false := decide_eq_false (by omega)
      rw [List.append_assoc, List.getElem?_append_left (by simpa using h1), List.getElem?_replicate, if_pos h1, hd, Bool.false_and]
    · by_cases a : q < at_ + n
      · rw [List.getElem?_append_left (by simp; omega), List.getElem?_append_right (by simp; omega), List.length_replicate, List.getElem?_map, List.getElem?_range (by omega)]
        have hd : decide (at_ ≤ q ∧ q < at_ + n) = true := decide_eq_true (by omega)
        rw [hd, Bool.true_and]
        simp only [Option.map_some, hx, decide_eq_true (show q - at_ < n by omega), Bool.true_and]
      · have hd : decide (at_ ≤ q ∧ q < at_ + n) = false := decide_eq_false (by omega)
        rw [List.getElem?_append_right (by simp; omega), List.getElem?_replicate, hd, Bool.false_and, if_pos (by simp; omega)]
  · rw [List.getElem?_eq_none (by rw [bitsOf_len]; omega), List.getElem?_eq_none (by simp; omega)]
 rw [fold_bits, e, List.foldl_append, List.foldl_append, fold_falses, fold_falses, bits_nil] at h
 have a := bits_zero _ h
 rw [← bits_stream n _ _ hn (fun i hi => by rw [hx, decide_eq_false (show ¬ i < n by omega), Bool.false_and]), BitVec.zero_xor] at a
 have c := bits_zero _ a
 intro i hi
 have b := hx i
 rw [c, BitVec.getLsbD_zero, decide_eq_true hi, Bool.true_and] at b
 exact b.symm
def flip (d : List (BitVec 8)) (q : Nat) : List (BitVec 8) := d.set (q / 8) (d.getD (q / 8) 0#8 ^^^ (1#8 <<< (q % 8)))
def turned (d : List (BitVec 8)) (at_ : Nat) (m : BitVec 32) : Nat → List (BitVec 8)
 | 0 => d
 | i + 1 => if m.getLsbD i then flip (turned d at_ m i) (at_ + i) else turned d at_ m i
theorem row_len {xs : List (BitVec 8)} {k n i : Nat} (hkn : k ≤ n) (hi : i < n) : (rowAt (enc xs k n) i).length = lenOf xs.length k :=
 rowAt_len encD_all (by rw [enc_len hkn]; exact hi)
theorem whole_own {xs : List (BitVec 8)} {k n i : Nat} (hk : 1 ≤ k) (hkn : k ≤ n) (hn : n ≤ 255) (hs : xs.length ≤ 65536) (hi : i < n) {hd : Hdr} {dt : List (BitVec 8)} (hdl : dt.length = lenOf xs.length k) (e1 : hd.size = (xs.length : Int)) (e2 : hd.kk = (k : Int)) (e3 : hd.nn = (n : Int)) (e4 : hd.id.index = (i : Int)) : wholeE hd dt = if crcF dt = hd.sum then 0 else 92 := by
 have hok : okZ hd.size hd.kk hd.nn := by unfold okZ; omega
 have a : ezI hd.size hd.kk hd.nn = 0 := if_pos hok
 have b : lzI hd.size hd.kk hd.nn = ((lenOf xs.length k : Nat) : Int) := by
  unfold lzI
  rw [if_pos hok, e1, e2]; rfl
 unfold wholeE
 rw [if_neg (by rw [a]; omega), if_neg (by rw [b, hdl]; simp)]
 by_cases hc : crcF dt = hd.sum
 · rw [if_neg (by rw [hc]; simp), if_pos hc]
 · rw [if_pos (show (((crcF dt).toNat : Nat) : Int) ≠ ((hd.sum.toNat : Nat) : Int) from fun e => hc (BitVec.eq_of_toNat_eq (Int.ofNat.inj e))), if_neg hc]
theorem hitR_index {r : Rd} {frm : Int} {hd : Hdr} {i : Nat} (h : hitR r frm hd i = true) : hd.id.index = (i : Int) := by
 unfold hitR at h
 simp only [Bool.and_eq_true, decide_eq_true_eq] at h
 exact congrArg CID.index h.1
theorem gotR_at {r : Rd} {frm : Int} {hd : Hdr} {dt : List (BitVec 8)} {ok : Bool} {i : Nat} (hw : waitsR r = true) (hh : hitR r frm hd i = true) : gotR r frm hd dt ok = if openR r (i : Int) = true then stepR r i hd dt ok else r := by
 have hi : i < r.object.nodes.length := by
  have h := hh
  unfold hitR at h
  simp only [Bool.and_eq_true, decide_eq_true_eq] at h
  exact (List.getElem?_eq_some_iff.1 h.2).1
 unfold gotR
 rw [if_neg (by rw [hw]; decide), rfind_hit hi hh (fun j hj => by
  cases hx : hitR r frm hd j
  · rfl
  · have := (hitR_index hx).symm.trans (hitR_index hh)
    omega)]
theorem goodR_iff {xs : List (BitVec 8)} {k n i : Nat} {r : Rd} (h : RdOf xs k n r) (hi : i < n) {hd : Hdr} {dt : List (BitVec 8)} (hdl : dt.length = lenOf xs.length k) (e : hd = { headR r (i : Int) with sum := hd.sum }) : goodR r i hd dt true ↔ crcF dt = hd.sum := by
 have hw := whole_own (dt := dt) (hd := { headR r (i : Int) with sum := hd.sum }) h.hk h.hkn h.hn h.hs hi hdl h.size h.kk h.nn rfl
 unfold goodR
 rw [hw]
 constructor
 · rintro ⟨_, _, a⟩
   exact Classical.byContradiction fun hc => by
    rw [if_neg hc] at a
    exact absurd a (by decide)
 · intro hc
   exact ⟨rfl, e, if_pos hc⟩
theorem leftTo_add {bad : List Int} {i : Nat} (hb : ¬ (i : Int) ∈ bad) : ∀ n, leftTo (bad ++ [(i : Int)]) n + (if i < n then 1 else 0) = leftTo bad n
 | 0 => rfl
 | n + 1 => by
  have ih := leftTo_add hb n
  by_cases hm : (n : Int) ∈ bad
  · have hni : n ≠ i := fun e => hb (e ▸ hm)
    rw [← leftTo_no hm, ← leftTo_no (List.mem_append_left _ hm), ← ih]
    congr 1
    by_cases h1 : i < n
    · rw [if_pos h1, if_pos (by omega)]
    · rw [if_neg h1, if_neg (by omega)]
  · by_cases hni : n = i
    · subst hni
      rw [← leftTo_yes hm, ← leftTo_no (List.mem_append_right _ (List.mem_singleton.2 rfl)), if_pos (by omega)]
      rw [if_neg (by omega)] at ih
      omega
    · rw [← leftTo_yes hm, ← leftTo_yes (bad := bad ++ [(i : Int)]) (by
       rw [List.mem_append, List.mem_singleton]
       rintro (h1 | h1)
       · exact hm h1
       · exact hni (Int.ofNat.inj h1)), ← ih]
      by_cases h1 : i < n
      · rw [if_pos h1, if_pos (by omega)]
      · rw [if_neg h1, if_neg (by omega)]
theorem leftTo_none : ∀ n, leftTo [] n = n
 | 0 => rfl
 | n + 1 => by rw [← leftTo_yes (by simp), leftTo_none n]
theorem waits_of {xs : List (BitVec 8)} {k n : Nat} {r : Rd} (h : RdOf xs k n r) (hd : r.done = 0) : waitsR r = true := by
 unfold waitsR
 rw [h.nodes, h.nn, hd]
 simp
theorem openR_iff {r : Rd} {i : Nat} : openR r (i : Int) = true ↔ ¬ (i : Int) ∈ r.bad ∧ ¬ (i : Int) ∈ r.pieces.map Pc.index := by
 unfold openR
 simp only [Bool.and_eq_true, Bool.not_eq_true', decide_eq_false_iff_not]
structure Ov (xs : List (BitVec 8)) (k n : Nat) (O : ObjD) (f : Nat → Nat) (r : Rd) (x : Nat) : Prop where
 of : RdOf xs k n r
 ob : r.object = O
 ix : r.pieces.map Pc.index = (List.range x).map fun j => ((f j : Nat) : Int)
 bad : r.bad = []
 dn : r.done = if k ≤ x then 1 else 0
theorem Ov.len {xs : List (BitVec 8)} {k n : Nat} {O : ObjD} {f : Nat → Nat} {r : Rd} {x : Nat} (h : Ov xs k n O f r x) : r.pieces.length = x := by
 have := congrArg List.length h.ix
 simpa using this
theorem Ov.step {xs : List (BitVec 8)} {k n : Nat} {O : ObjD} {f : Nat → Nat} {r : Rd} {x : Nat} (h : Ov xs k n O f r x) (hx : x < k) (hf : f x < n) (hne : ∀ j < x, f j ≠ f x) {frm : Int} {hd : Hdr} (hh : hitR r frm hd (f x) = true) (he : hd = { headR r ((f x : Nat) : Int) with sum := crcF (rowAt (enc xs k n) (f x)) }) :
 Ov xs k n O f (gotR r frm hd (rowAt (enc xs k n) (f x)) true) (x + 1) := by
 have hkn := h.of.hkn
 have ho : openR r ((f x : Nat) : Int) = true := openR_iff.2 ⟨by rw [h.bad]; simp, by
  rw [h.ix]
  intro hm
  obtain ⟨j, hj, e⟩ := List.mem_map.1 hm
  exact hne j (List.mem_range.1 hj) (Int.ofNat.inj e)⟩
 have hg : goodR r (f x) hd (rowAt (enc xs k n) (f x)) true := (goodR_iff h.of hf (row_len hkn hf) (by rw [he])).2 (by rw [he])
 have hp := h.of.put ho hf rfl
 rw [gotR_at (waits_of h.of (by rw [h.dn, if_neg (by omega)])) hh, if_pos ho]
 unfold stepR
 rw [if_pos hg]
 refine ⟨{ hp with }, h.ob, ?_, h.bad, ?_⟩
 · show (r.pieces ++ [_]).map Pc.index = _
   rw [List.map_append, h.ix, List.range_succ, List.map_append]; rfl
 · show judgeR (putR r (f x) (rowAt (enc xs k n) (f x))) = _
   unfold judgeR
   have a : ((putR r (f x) (rowAt (enc xs k n) (f x))).pieces.length : Int) = ((x + 1 : Nat) : Int) := by
    show ((r.pieces ++ [_]).length : Int) = _
    rw [List.length_append, h.len]; rfl
   have b : leftTo (putR r (f x) (rowAt (enc xs k n) (f x))).bad (putR r (f x) (rowAt (enc xs k n) (f x))).nn.toNat = n := by
    show leftTo r.bad r.nn.toNat = n
    rw [h.bad, h.of.nn, leftTo_none]; rfl
   have c : (putR r (f x) (rowAt (enc xs k n) (f x))).kk = (k : Int) := h.of.kk
   rw [a, b, c]
   by_cases hk1 : k ≤ x + 1
   · rw [if_pos (by omega), if_pos hk1]
   · rw [if_neg (by omega), if_neg (by omega), if_neg hk1]
def wantOf (k n g l : Nat) : Int := if k ≤ g then 1 else if n < k + l then 2 else 0
structure Gv (xs : List (BitVec 8)) (k n : Nat) (O : ObjD) (r : Rd) (wh bd : List Bool) (g l : Nat) : Prop where
 of : RdOf xs k n r
 ob : r.object = O
 wl : wh.length = n
 bl : bd.length = n
 w : ∀ i < n, wh[i]? = some (decide ((i : Int) ∈ r.pieces.map Pc.index))
 b : ∀ i < n, bd[i]? = some (decide ((i : Int) ∈ r.bad))
 gl : r.pieces.length = g
 ll : leftTo r.bad n + l = n
 dn : r.done = wantOf k n g l
theorem want_wait {k n g l : Nat} (h : g < k ∧ k + l ≤ n) : wantOf k n g l = 0 := by
 unfold wantOf
 rw [if_neg (by omega), if_neg (by omega)]
theorem Gv.open {xs : List (BitVec 8)} {k n : Nat} {O : ObjD} {r : Rd} {wh bd : List Bool} {g l : Nat} (h : Gv xs k n O r wh bd g l) {i : Nat} (hi : i < n) (h1 : wh[i]? = some false) (h2 : bd[i]? = some false) : openR r (i : Int) = true := by
 rw [h.w i hi] at h1
 rw [h.b i hi] at h2
 exact openR_iff.2 ⟨of_decide_eq_false (Option.some.inj h2), of_decide_eq_false (Option.some.inj h1)⟩
theorem set_map {q : Nat → Bool} {l : List Bool} {i n : Nat} (hl : l.length = n) (h : ∀ j < n, l[j]? = some (q j)) {q2 : Nat → Bool} (hi : q2 i = true) (hn : ∀ j, j ≠ i → q2 j = q j) : ∀ j < n, (l.set i true)[j]? = some (q2 j) := fun j hj => by
 rw [List.getElem?_set]
 by_cases e : i = j
 · subst e; rw [if_pos rfl, if_pos (by omega), hi]
 · rw [if_neg e, h j hj, hn j (fun e2 => e e2.symm)]
theorem Gv.put {xs : List (BitVec 8)} {k n : Nat} {O : ObjD} {r : Rd} {wh bd : List Bool} {g l : Nat} (h : Gv xs k n O r wh bd g l) (hs : g < k ∧ k + l ≤ n) {i : Nat} (hi : i < n) (h1 : wh[i]? = some false) (h2 : bd[i]? = some false) {frm : Int} {hd : Hdr} (hh : hitR r frm hd i = true) (he : hd = { headR r (i : Int) with sum := crcF (rowAt (enc xs k n) i) }) :
 Gv xs k n O (gotR r frm hd (rowAt (enc xs k n) i) true) (wh.set i true) bd (g + 1) l := by
 have ho := h.open hi h1 h2
 have hg : goodR r i hd (rowAt (enc xs k n) i) true := (goodR_iff h.of hi (row_len h.of.hkn hi) (by rw [he])).2 (by rw [he])
 have hp := h.of.put ho hi rfl
 rw [gotR_at (waits_of h.of (by rw [h.dn, want_wait hs])) hh, if_pos ho]
 unfold stepR
 rw [if_pos hg]
 refine ⟨{ hp with }, h.ob, by rw [List.length_set, h.wl], h.bl, ?_, h.b, ?_, h.ll, ?_⟩
 · refine set_map h.wl h.w ?_ ?_
   · show decide ((i : Int) ∈ (r.pieces ++ [_]).map Pc.index) = true
     simp
   · intro j hj
     have hji : (j : Int) ≠ (i : Int) := by omega
     refine decide_eq_decide.2 ?_
     show (j : Int) ∈ (r.pieces ++ [_]).map Pc.index ↔ _
     rw [List.map_append, List.mem_append]
     simp [hji]
 · show (r.pieces ++ [_]).length = _
   rw [List.length_append, h.gl]; rfl
 · show judgeR (putR r i (rowAt (enc xs k n) i)) = _
   unfold judgeR wantOf
   have a : ((putR r i (rowAt (enc xs k n) i)).pieces.length : Int) = ((g + 1 : Nat) : Int) := by
    show ((r.pieces ++ [_]).length : Int) = _
    rw [List.length_append, h.gl]; rfl
   have c : leftTo (putR r i (rowAt (enc xs k n) i)).bad (putR r i (rowAt (enc xs k n) i)).nn.toNat = leftTo r.bad n := by
    show leftTo r.bad r.nn.toNat = _
    rw [h.of.nn]; rfl
   have d : (putR r i (rowAt (enc xs k n) i)).kk = (k : Int) := h.of.kk
   have hll := h.ll
   rw [a, c, d]
   by_cases hk1 : k ≤ g + 1
   · rw [if_pos (by omega), if_pos hk1]
   · rw [if_neg (by omega), if_neg (by omega), if_neg hk1, if_neg (by omega)]
theorem Gv.bad {xs : List (BitVec 8)} {k n : Nat} {O : ObjD} {r : Rd} {wh bd : List Bool} {g l : Nat} (h : Gv xs k n O r wh bd g l) (hs : g < k ∧ k + l ≤ n) {i : Nat} (hi : i < n) (h1 : wh[i]? = some false) (h2 : bd[i]? = some false) {frm : Int} {hd : Hdr} {dt : List (BitVec 8)} {ok : Bool} (hh : hitR r frm hd i = true) (hg : ¬ goodR r i hd dt ok) :
 Gv xs k n O (gotR r frm hd dt ok) wh (bd.set i true) g (l + 1) := by
 have ho := h.open hi h1 h2
 have hnb := (openR_iff.1 ho).1
 rw [gotR_at (waits_of h.of (by rw [h.dn, want_wait hs])) hh, if_pos ho]
 unfold stepR
 rw [if_neg hg]
 have hla : leftTo (r.bad ++ [(i : Int)]) n + 1 = leftTo r.bad n := by
  have := leftTo_add hnb n
  rwa [if_pos hi] at this
 have hll := h.ll
 refine ⟨{ h.of with }, h.ob, h.wl, by rw [List.length_set, h.bl], h.w, ?_, h.gl, ?_, ?_⟩
 · refine set_map h.bl h.b ?_ ?_
   · show decide ((i : Int) ∈ r.bad ++ [_]) = true
     simp
   · intro j hj
     have hji : (j : Int) ≠ (i : Int) := by omega
     refine decide_eq_decide.2 ?_
     show (j : Int) ∈ r.bad ++ [_] ↔ _
     rw [List.mem_append]
     simp [hji]
 · show leftTo (r.bad ++ [(i : Int)]) n + (l + 1) = n
   omega
 · show judgeR (badR r i) = _
   unfold judgeR wantOf
   have a : ((badR r i).pieces.length : Int) = (g : Int) := by
    show ((r.pieces).length : Int) = _
    rw [h.gl]
   have c : leftTo (badR r i).bad (badR r i).nn.toNat = leftTo (r.bad ++ [(i : Int)]) n := by
    show leftTo (r.bad ++ [(i : Int)]) r.nn.toNat = _
    rw [h.of.nn]; rfl
   have d : (badR r i).kk = (k : Int) := h.of.kk
   rw [a, c, d, if_neg (by omega), if_neg (by omega : ¬ k ≤ g)]
   by_cases hl2 : n < k + (l + 1)
   · rw [if_pos (by omega), if_pos hl2]
   · rw [if_neg (by omega), if_neg hl2]
theorem Gv.begin {xs : List (BitVec 8)} {k n : Nat} {limit : Int} (hk : 1 ≤ k) (hkn : k ≤ n) (hn : n ≤ 255) (hs : xs.length ≤ 65536) : Gv xs k n (objOf xs n) (beginR (objOf xs n) (k : Int) (n : Int) limit) (List.replicate n false) (List.replicate n false) 0 0 := by
 refine ⟨RdOf.begin hk hkn hn hs, rfl, List.length_replicate, List.length_replicate, fun i hi => ?_, fun i hi => ?_, rfl, leftTo_none n, ?_⟩
 · rw [List.getElem?_replicate, if_pos hi]
   exact congrArg some (decide_eq_false (by show ¬ _ ∈ ([] : List Int); simp)).symm
 · rw [List.getElem?_replicate, if_pos hi]
   exact congrArg some (decide_eq_false (by show ¬ _ ∈ ([] : List Int); simp)).symm
 · exact (want_wait (by omega)).symm
theorem Ov.begin {xs : List (BitVec 8)} {k n : Nat} {limit : Int} (f : Nat → Nat) (hk : 1 ≤ k) (hkn : k ≤ n) (hn : n ≤ 255) (hs : xs.length ≤ 65536) : Ov xs k n (objOf xs n) f (beginR (objOf xs n) (k : Int) (n : Int) limit) 0 :=
 ⟨RdOf.begin hk hkn hn hs, rfl, rfl, rfl, by rw [if_neg (by omega)]; rfl⟩
theorem nodesTo_get {n i : Nat} (h : i < n) : (nodesTo n)[i]? = some ((i : Int) + 1) := by
 unfold nodesTo
 rw [List.getElem?_map, List.getElem?_range h]; rfl
theorem hit_own {xs : List (BitVec 8)} {k n i : Nat} {r : Rd} (ho : r.object = objOf xs n) (hi : i < n) {hd : Hdr} (he : hd.id = (hdAt xs k n i).id) : hitR r ((i : Int) + 1) hd i = true := by
 unfold hitR
 have hn : (objOf xs n).nodes = nodesTo n := rfl
 rw [ho, he, hn, nodesTo_get hi]
 simp [hdAt, objOf]
theorem rdB_got {r : Rd} {frm : Int} {hd : Hdr} {dt : List (BitVec 8)} {ok : Bool} (h : rdB r) : rdB (gotR r frm hd dt ok) := by
 have hb : ∀ q : Rd, q.object = r.object → q.kk = r.kk → q.nn = r.nn → q.waited = r.waited → q.limit = r.limit → rdB { q with done := judgeR q } := by
  intro q a b c d e
  have hj := judgeR_bd q
  unfold rdB at h ⊢
  simp only [a, b, c, d, e]
  obtain ⟨f, g, i, j, k, l, m, n, o, _⟩ := h
  exact ⟨f, g, i, j, k, l, m, n, o, by omega⟩
 unfold gotR
 split
 · exact h
 · split
   · exact h
   · split
     · unfold stepR
       split
       · exact hb _ rfl rfl rfl rfl rfl
       · exact hb _ rfl rfl rfl rfl rfl
     · exact h
theorem rdB_begin {xs : List (BitVec 8)} {k n : Nat} (hk : 1 ≤ k) (hkn : k ≤ n) (hn : n ≤ 255) (hs : xs.length ≤ 65536) : rdB (beginR (objOf xs n) (k : Int) (n : Int) 100) := by
 have a : (objOf xs n).key.size = 1 := rfl
 have b : (objOf xs n).size = (xs.length : Int) := rfl
 refine ⟨by show (objOf xs n).key.size ≤ _; rw [a]; simp [maxLen], ⟨by show (0 : Int) ≤ 7; decide, by show (7 : Int) ≤ _; decide⟩, by show _ ≤ (objOf xs n).size ∧ (objOf xs n).size ≤ _; rw [b]; omega, ⟨by show (_ : Int) ≤ 0; decide, by show (0 : Int) ≤ _; decide⟩, ⟨by show (0 : Int) ≤ 2; decide, by show (2 : Int) ≤ _; decide⟩, by show _ ≤ (k : Int) ∧ (k : Int) ≤ _; omega, by show _ ≤ (n : Int) ∧ (n : Int) ≤ _; omega, ⟨by show (_ : Int) ≤ 0; decide, by show (0 : Int) ≤ _; decide⟩, ⟨by show (_ : Int) ≤ 100; decide, by show (100 : Int) ≤ _; decide⟩, ⟨by show (_ : Int) ≤ 0; decide, by show (0 : Int) ≤ _; decide⟩⟩
end Go.Proofs.YtppcdmbkgficiaaGreat
