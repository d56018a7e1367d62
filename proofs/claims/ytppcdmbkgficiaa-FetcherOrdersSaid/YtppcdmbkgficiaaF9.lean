import Derived.Test.YtppcdmbkgficiaaF7
import Derived.Test.YtppcdmbkgficiaaBxShift
namespace Go.Proofs.Ytppcdmbkgficiaa
open Go.BX

/-! sums tell a burst -/
theorem bit1_zero {c : BitVec 32} (h : bit1 c = 0#32) : c = 0#32 := by
 rw [bit1_eq] at h
 have h31 := congrArg (fun x : BitVec 32 => x.getLsbD 31) h
 have hl : c.getLsbD 0 = false := by
  cases hc : c.getLsbD 0
  · rfl
  · rw [hc] at h31
    simp at h31
 rw [hl] at h
 simp only [Bool.false_eq_true, if_false, BitVec.xor_zero] at h
 apply BitVec.eq_of_getLsbD_eq
 intro i hi
 rw [BitVec.getLsbD_zero]
 cases i with
 | zero => exact hl
 | succ j =>
  have := congrArg (fun x : BitVec 32 => x.getLsbD j) h
  simpa [BitVec.getLsbD_ushiftRight, Nat.add_comm] using this
theorem bits_nil : ∀ n : Nat, bits n 0#32 = 0#32
 | 0 => rfl
 | n + 1 => by
  show bit1 (bits n 0#32) = _
  rw [bits_nil n]; decide
theorem bits_zero : ∀ (n : Nat) {c : BitVec 32}, bits n c = 0#32 → c = 0#32
 | 0, _, h => h
 | n + 1, _, h => bits_zero n (bit1_zero h)
theorem bits_in : ∀ (n : Nat) (c : BitVec 32), bits (n + 1) c = bits n (bit1 c)
 | 0, _ => rfl
 | n + 1, c => by
  show bit1 (bits (n + 1) c) = bit1 (bits n (bit1 c))
  rw [bits_in n]
theorem crcStep_xor (a b : BitVec 32) (x y : BitVec 8) : crcStep (a ^^^ b) (x ^^^ y) = crcStep a x ^^^ crcStep b y := by
 unfold crcStep
 rw [← bits_xor, BitVec.setWidth_xor]
 congr 1
 ac_rfl
theorem crcStep_nil (c : BitVec 32) : crcStep c 0#8 = bits 8 c := by
 unfold crcStep
 rw [show (0#8).setWidth 32 = 0#32 from rfl, BitVec.xor_zero]
theorem fold_xor : ∀ (xs ys : List (BitVec 8)) (a b : BitVec 32), xs.length = ys.length → xs.foldl crcStep a ^^^ ys.foldl crcStep b = (List.zipWith (· ^^^ ·) xs ys).foldl crcStep (a ^^^ b)
 | [], [], _, _, _ => rfl
 | x :: xs, y :: ys, a, b, h => by
  simp only [List.foldl_cons, List.zipWith_cons_cons]
  rw [crcStep_xor, fold_xor xs ys _ _ (Nat.succ.inj h)]
theorem xor_zero_eq {n : Nat} {a b : BitVec n} (h : a ^^^ b = 0#n) : a = b := by
 apply BitVec.eq_of_getLsbD_eq
 intro i hi
 have := congrArg (fun x : BitVec n => x.getLsbD i) h
 simpa using this
theorem crcF_inj {xs ys : List (BitVec 8)} (hl : xs.length = ys.length) (h : crcF xs = crcF ys) : (List.zipWith (· ^^^ ·) xs ys).foldl crcStep 0#32 = 0#32 := by
 unfold crcF at h
 have h2 : xs.foldl crcStep 4294967295#32 = ys.foldl crcStep 4294967295#32 := by
  have := congrArg (fun x => ~~~ x) h
  simpa using this
 have h3 := fold_xor xs ys 4294967295#32 4294967295#32 hl
 rw [h2, BitVec.xor_self, BitVec.xor_self] at h3
 exact h3.symm
theorem fold_zero : ∀ (xs : List (BitVec 8)) {c : BitVec 32}, (∀ x ∈ xs, x = 0#8) → xs.foldl crcStep c = 0#32 → c = 0#32
 | [], _, _, h => h
 | x :: xs, c, hx, h => by
  have h2 := fold_zero xs (fun y hy => hx y (List.mem_cons_of_mem _ hy)) h
  rw [hx x List.mem_cons_self, crcStep_nil] at h2
  exact bits_zero 8 h2
/-- a turned first byte -/
theorem crcF_head {x y : BitVec 8} {xs : List (BitVec 8)} (h : crcF (x :: xs) = crcF (y :: xs)) : x = y := by
 have h2 := crcF_inj (xs := x :: xs) (ys := y :: xs) rfl h
 rw [List.zipWith_cons_cons, List.foldl_cons] at h2
 have h3 := fold_zero _ (by
  intro z hz
  obtain ⟨i, hi, rfl⟩ := List.mem_iff_getElem.1 hz
  simp) h2
 unfold crcStep at h3
 have h4 := bits_zero 8 h3
 rw [BitVec.zero_xor] at h4
 apply xor_zero_eq
 have := congrArg (BitVec.setWidth 8) h4
 simpa using this
/-! bit by bit -/
def stepB (c : BitVec 32) (b : Bool) : BitVec 32 := bit1 (c ^^^ (if b then 1#32 else 0#32))
theorem bits_stream : ∀ (n : Nat) (c x : BitVec 32), n ≤ 32 → (∀ i, n ≤ i → x.getLsbD i = false) → bits n (c ^^^ x) = ((List.range n).map fun i => x.getLsbD i).foldl stepB c
 | 0, c, x, _, hx => by
  have : x = 0#32 := by
   apply BitVec.eq_of_getLsbD_eq
   intro i hi
   rw [hx i (Nat.zero_le _), BitVec.getLsbD_zero]
  rw [this, BitVec.xor_zero]; rfl
 | n + 1, c, x, hn, hx => by
  rw [bits_in]
  have e : bit1 (c ^^^ x) = stepB c (x.getLsbD 0) ^^^ (x >>> 1) := by
   unfold stepB
   rw [bit1_xor, bit1_xor, BitVec.xor_assoc]
   congr 1
   rw [bit1_eq, bit1_eq]
   cases hb : x.getLsbD 0
   · simp
   · simp only [if_true]
     rw [show (1#32).getLsbD 0 = true from rfl]
     simp only [if_true]
     rw [show (1#32) >>> 1 = 0#32 from rfl, BitVec.zero_xor, BitVec.xor_comm]
  rw [e, bits_stream n _ _ (by omega) (fun i hi => by rw [BitVec.getLsbD_ushiftRight]; exact hx _ (by omega))]
  rw [List.range_succ_eq_map, List.map_cons, List.foldl_cons, List.map_map]
  congr 1
  apply List.map_congr_left
  intro i _
  simp [BitVec.getLsbD_ushiftRight, Nat.add_comm]
def bitsOf (xs : List (BitVec 8)) : List Bool := xs.flatMap fun x => (List.range 8).map fun i => x.getLsbD i
theorem crcStep_bits (c : BitVec 32) (x : BitVec 8) : crcStep c x = ((List.range 8).map fun i => x.getLsbD i).foldl stepB c := by
 unfold crcStep
 rw [bits_stream 8 c _ (by decide) (fun i hi => by rw [BitVec.getLsbD_setWidth, BitVec.getLsbD_of_ge x i hi, Bool.and_false])]
 congr 1
theorem fold_bits : ∀ (xs : List (BitVec 8)) (c : BitVec 32), xs.foldl crcStep c = (bitsOf xs).foldl stepB c
 | [], _ => rfl
 | x :: xs, c => by
  show xs.foldl crcStep (crcStep c x) = ((((List.range 8).map fun i => x.getLsbD i)) ++ bitsOf xs).foldl stepB c
  rw [List.foldl_append, ← crcStep_bits, fold_bits xs]
theorem bitsOf_len : ∀ xs : List (BitVec 8), (bitsOf xs).length = 8 * xs.length
 | [] => rfl
 | x :: xs => by
  show ((((List.range 8).map fun i => x.getLsbD i)) ++ bitsOf xs).length = _
  rw [List.length_append, bitsOf_len xs, List.length_map, List.length_range, List.length_cons]; omega
def bitD (xs : List (BitVec 8)) (q : Nat) : Bool := (xs.getD (q / 8) 0#8).getLsbD (q % 8)
theorem bitsOf_at : ∀ (xs : List (BitVec 8)) (q : Nat), q < 8 * xs.length → (bitsOf xs)[q]? = some (bitD xs q)
 | [], _, h => absurd h (by simp)
 | x :: xs, q, h => by
  show ((((List.range 8).map fun i => x.getLsbD i)) ++ bitsOf xs)[q]? = _
  by_cases h8 : q < 8
  · rw [List.getElem?_append_left (by simpa using h8), List.getElem?_map, List.getElem?_range h8]
    unfold bitD
    rw [show q / 8 = 0 by omega, show q % 8 = q by omega]; rfl
  · rw [List.getElem?_append_right (by simp; omega), List.length_map, List.length_range, bitsOf_at xs (q - 8) (by rw [List.length_cons] at h; omega)]
    unfold bitD
    rw [show q / 8 = (q - 8) / 8 + 1 by omega, show q % 8 = (q - 8) % 8 by omega]; rfl
theorem fold_falses : ∀ (n : Nat) (c : BitVec 32), (List.replicate n false).foldl stepB c = bits n c
 | 0, _ => rfl
 | n + 1, c => by
  rw [List.replicate_succ, List.foldl_cons, fold_falses n, bits_in]
  congr 1
  unfold stepB
  simp
/-- a burst of up to 32 bits leaves a trace -/
theorem burst {δ : List (BitVec 8)} {at_ n : Nat} {m : BitVec 32} (hn : n ≤ 32) (hat : at_ + n ≤ 8 * δ.length) (hb : ∀ q, q < 8 * δ.length → bitD δ q = (decide (at_ ≤ q ∧ q < at_ + n) && m.getLsbD (q - at_)))
 (h : δ.foldl crcStep 0#32 = 0#32) : ∀ i < n, m.getLsbD i = false := by
 obtain ⟨x, hx⟩ : ∃ x : BitVec 32, ∀ i, x.getLsbD i = (decide (i < n) && m.getLsbD i) := by
  refine ⟨(m.setWidth n).setWidth 32, fun i => ?_⟩
  rw [BitVec.getLsbD_setWidth, BitVec.getLsbD_setWidth]
  by_cases hi : i < n
  · rw [decide_eq_true (show i < 32 by omega), Bool.true_and]
  · rw [decide_eq_false hi, Bool.false_and, Bool.and_false]
 have e : bitsOf δ = List.replicate at_ false ++ ((List.range n).map fun i => x.getLsbD i) ++ List.replicate (8 * δ.length - at_ - n) false := by
  apply List.ext_getElem?
  intro q
  by_cases hq : q < 8 * δ.length
  · rw [bitsOf_at δ q hq, hb q hq]
    by_cases h1 : q < at_
    · have hd : decide (at_ ≤ q ∧ q < at_ + n) = false := decide_eq_false (by omega)
      rw [List.append_assoc, List.getElem?_append_left (by simpa using h1), List.getElem?_replicate, if_pos h1, hd, Bool.false_and]
    · by_cases h2 : q < at_ + n
      · rw [List.getElem?_append_left (by simp; omega), List.getElem?_append_right (by simp; omega), List.length_replicate, List.getElem?_map, List.getElem?_range (by omega)]
        have hd : decide (at_ ≤ q ∧ q < at_ + n) = true := decide_eq_true (by omega)
        rw [hd, Bool.true_and]
        simp only [Option.map_some, hx, decide_eq_true (show q - at_ < n by omega), Bool.true_and]
      · have hd : decide (at_ ≤ q ∧ q < at_ + n) = false := decide_eq_false (by omega)
        rw [List.getElem?_append_right (by simp; omega), List.getElem?_replicate, hd, Bool.false_and, if_pos (by simp; omega)]
  · rw [List.getElem?_eq_none (by rw [bitsOf_len]; omega), List.getElem?_eq_none (by simp; omega)]
 rw [fold_bits, e, List.foldl_append, List.foldl_append, fold_falses, fold_falses, bits_nil] at h
 have h2 := bits_zero _ h
 rw [← bits_stream n _ _ hn (fun i hi => by rw [hx, decide_eq_false (show ¬ i < n by omega), Bool.false_and]), BitVec.zero_xor] at h2
 have h3 := bits_zero _ h2
 intro i hi
 have h4 := hx i
 rw [h3, BitVec.getLsbD_zero, decide_eq_true hi, Bool.true_and] at h4
 exact h4.symm
/-! turning bits one by one -/
def flip (d : List (BitVec 8)) (q : Nat) : List (BitVec 8) := d.set (q / 8) (d.getD (q / 8) 0#8 ^^^ (1#8 <<< (q % 8)))
def turned (d : List (BitVec 8)) (at_ : Nat) (m : BitVec 32) : Nat → List (BitVec 8)
 | 0 => d
 | i + 1 => if m.getLsbD i then flip (turned d at_ m i) (at_ + i) else turned d at_ m i
theorem flip_len (d : List (BitVec 8)) (q : Nat) : (flip d q).length = d.length := by simp [flip]
theorem turned_len (d : List (BitVec 8)) (at_ : Nat) (m : BitVec 32) : ∀ i, (turned d at_ m i).length = d.length
 | 0 => rfl
 | i + 1 => by
  unfold turned
  split
  · rw [flip_len, turned_len d at_ m i]
  · exact turned_len d at_ m i
theorem flip_bit {d : List (BitVec 8)} {q : Nat} (hq : q < 8 * d.length) (j : Nat) : bitD (flip d q) j = (bitD d j ^^ decide (j = q)) := by
 unfold bitD flip
 have hl : q / 8 < d.length := by omega
 by_cases h : j / 8 = q / 8
 · rw [h]
   simp only [List.getD_eq_getElem?_getD, List.getElem?_set_self hl, Option.getD_some, BitVec.getLsbD_xor]
   congr 1
   rw [BitVec.getLsbD_shiftLeft]
   by_cases h2 : j = q
   · subst h2
     simp
     omega
   · rw [decide_eq_false h2]
     by_cases h3 : j % 8 < q % 8
     · simp [h3]
     · have : ¬ j % 8 - q % 8 = 0 := by omega
       simp [this]
 · rw [decide_eq_false (fun e => h (by rw [e])), Bool.xor_false]
   simp only [List.getD_eq_getElem?_getD, List.getElem?_set_ne (fun e => h e.symm)]
theorem turned_bit {d : List (BitVec 8)} {at_ : Nat} {m : BitVec 32} : ∀ (i : Nat), at_ + i ≤ 8 * d.length → ∀ j, bitD (turned d at_ m i) j = (bitD d j ^^ (decide (at_ ≤ j ∧ j < at_ + i) && m.getLsbD (j - at_)))
 | 0, _, j => by
  rw [decide_eq_false (show ¬ (at_ ≤ j ∧ j < at_ + 0) by omega), Bool.false_and, Bool.xor_false]; rfl
 | i + 1, h, j => by
  have ih := turned_bit (d := d) (at_ := at_) (m := m) i (by omega) j
  unfold turned
  by_cases hj : j = at_ + i
  · have e : j - at_ = i := by omega
    cases hm : m.getLsbD i
    · simp only [Bool.false_eq_true, if_false]
      rw [ih, e, hm, Bool.and_false, Bool.and_false]
    · simp only [if_true]
      rw [flip_bit (by rw [turned_len]; omega), ih, e, hm, decide_eq_false (show ¬ (at_ ≤ j ∧ j < at_ + i) by omega), decide_eq_true (show at_ ≤ j ∧ j < at_ + (i + 1) by omega), decide_eq_true hj]
      simp
  · have e : decide (at_ ≤ j ∧ j < at_ + (i + 1)) = decide (at_ ≤ j ∧ j < at_ + i) := decide_eq_decide.2 (by omega)
    rw [e]
    split
    · rw [flip_bit (by rw [turned_len]; omega), ih, decide_eq_false hj, Bool.xor_false]
    · exact ih
theorem zip_bit {xs ys : List (BitVec 8)} (hl : xs.length = ys.length) (q : Nat) (hq : q < 8 * xs.length) : bitD (List.zipWith (· ^^^ ·) xs ys) q = (bitD xs q ^^ bitD ys q) := by
 unfold bitD
 have h1 : q / 8 < xs.length := by omega
 have h2 : q / 8 < ys.length := by omega
 simp [List.getD_eq_getElem?_getD, List.getElem?_zipWith, List.getElem?_eq_getElem h1, List.getElem?_eq_getElem h2]
theorem turned_tells {d : List (BitVec 8)} {at_ n : Nat} {m : BitVec 32} (hn : n ≤ 32) (hat : at_ + n ≤ 8 * d.length) (h : crcF d = crcF (turned d at_ m n)) : ∀ i < n, m.getLsbD i = false := by
 have hl : d.length = (turned d at_ m n).length := (turned_len d at_ m n).symm
 have hz : (List.zipWith (· ^^^ ·) d (turned d at_ m n)).length = d.length := by rw [List.length_zipWith, ← hl, Nat.min_self]
 refine burst hn (by rw [hz]; exact hat) (fun q hq => ?_) (crcF_inj hl h)
 rw [hz] at hq
 rw [zip_bit hl q hq, turned_bit n hat, ← Bool.xor_assoc, Bool.xor_self, Bool.false_xor]
theorem turned_same {d : List (BitVec 8)} {at_ : Nat} {m : BitVec 32} : ∀ n, (∀ i < n, m.getLsbD i = false) → turned d at_ m n = d
 | 0, _ => rfl
 | n + 1, h => by
  unfold turned
  rw [h n (by omega)]
  exact turned_same n fun i hi => h i (by omega)
theorem row_len {xs : List (BitVec 8)} {k n i : Nat} (hkn : k ≤ n) (hi : i < n) : (rowAt (enc xs k n) i).length = lenOf xs.length k :=
 rowAt_len encD_all (by rw [enc_len hkn]; exact hi)
theorem whole_own {xs : List (BitVec 8)} {k n i : Nat} (hk : 1 ≤ k) (hkn : k ≤ n) (hn : n ≤ 255) (hs : xs.length ≤ 65536) (hi : i < n) {hd : Hdr} {dt : List (BitVec 8)} (hdl : dt.length = lenOf xs.length k) (e1 : hd.size = (xs.length : Int)) (e2 : hd.kk = (k : Int)) (e3 : hd.nn = (n : Int)) (e4 : hd.id.index = (i : Int)) : wholeE hd dt = if crcF dt = hd.sum then 0 else 92 := by
 have hok : okZ hd.size hd.kk hd.nn := by unfold okZ; omega
 have h1 : ezI hd.size hd.kk hd.nn = 0 := if_pos hok
 have h2 : lzI hd.size hd.kk hd.nn = ((lenOf xs.length k : Nat) : Int) := by
  unfold lzI
  rw [if_pos hok, e1, e2]; rfl
 unfold wholeE
 rw [if_neg (by rw [h1]; omega), if_neg (by rw [h2, hdl]; simp)]
 by_cases hc : crcF dt = hd.sum
 · rw [if_neg (by rw [hc]; simp), if_pos hc]
 · rw [if_pos (show (((crcF dt).toNat : Nat) : Int) ≠ ((hd.sum.toNat : Nat) : Int) from fun e => hc (BitVec.eq_of_toNat_eq (Int.ofNat.inj e))), if_neg hc]
def anyB (m : BitVec 32) : Nat → Bool
 | 0 => false
 | i + 1 => anyB m i || m.getLsbD i
theorem anyB_false {m : BitVec 32} : ∀ {n : Nat}, anyB m n = false ↔ ∀ i < n, m.getLsbD i = false
 | 0 => ⟨fun _ i hi => absurd hi (Nat.not_lt_zero i), fun _ => rfl⟩
 | n + 1 => by
  show (anyB m n || m.getLsbD n) = false ↔ _
  rw [Bool.or_eq_false_iff, anyB_false]
  constructor
  · rintro ⟨h1, h2⟩ i hi
    rcases Nat.lt_or_eq_of_le (Nat.le_of_lt_succ hi) with h | h
    · exact h1 i h
    · rw [h]; exact h2
  · intro h
    exact ⟨fun i hi => h i (by omega), h n (by omega)⟩
theorem anyB_yes {m : BitVec 32} {i : Nat} (h : m.getLsbD i = true) : anyB m (i + 1) = true := by
 show (anyB m i || m.getLsbD i) = true
 rw [h, Bool.or_true]
theorem anyB_no {m : BitVec 32} {i : Nat} (h : m.getLsbD i = false) : anyB m (i + 1) = anyB m i := by
 show (anyB m i || m.getLsbD i) = _
 rw [h, Bool.or_false]
theorem turned_no {d : List (BitVec 8)} {q i : Nat} {m : BitVec 32} (h : m.getLsbD i = false) : turned d q m (i + 1) = turned d q m i := by
 show (if m.getLsbD i then _ else _) = _
 rw [h]; rfl
theorem turned_yes {d : List (BitVec 8)} {q i : Nat} {m : BitVec 32} (h : m.getLsbD i = true) (hl : (q + i) / 8 < (turned d q m i).length) : (turned d q m i).set ((q + i) / 8) ((turned d q m i)[(q + i) / 8] ^^^ (1#8 <<< ((q + i) % 8))) = turned d q m (i + 1) := by
 show _ = if m.getLsbD i then flip (turned d q m i) (q + i) else _
 rw [h]
 unfold flip
 simp [hl]

theorem copyB_own {S : Nat → Prop} {w : World} {xs : List (BitVec 8)} {a : Option Addr} {c : Nat} (h : SB.rep S w [.slice a xs.length c] xs) (hby : xs.length ≤ 140737488355328) :
 Calls Try.prog 33 #[.slice a xs.length c] w (Ret fun v w' => Ext w w' ∧ Hp w S [] [] [⟨Sb, 5, v, xs⟩] [] w') := by
 refine qS (fn := Try.f33) (n := 6) (σ := [(0, .slice a xs.length c)]) Try.func33 ?_
 have H := Hp.startF (w := w) (S := S) (G := [Rp SB [.slice a xs.length c] xs]) (.rp h .nil)
 refine qR 3 [.c [1, 0], .c [2]] [(0, .slice a xs.length c)] ?_
 refine qG (sq 0 4) ?_
 refine RW.new (κ := .seq) (d := some 3) (r := (sq 1 4)) (o := .cells #[] 5 (0, 0)) (v := fun b => .slice (some ⟨b, 0, none⟩) 0 0) (fun b => by as_aux_lemma => kernel_rfl) (nofun) H ?_
 intro b1 w2 H
 refine qP 1 (sq 2 4) [(3, .slice (some ⟨b1, 0, none⟩) 0 0), (4, .slice a xs.length c)] ?_
 have H := H.toOwn (sh := Sb) (xs := []) (cap := 0) (by rfl) (Nat.le_refl _) (Nat.zero_le _) (by simp) EsP.nil
 have H : Hp w S [] [] [⟨Sb, 5, .slice (some ⟨b1, 0, none⟩) 0 0, []⟩] [Rp SB [.slice a xs.length c] xs] _ := H
 refine RW.appendW (d := some 5) (r := (sq 3 4)) (T := 23) (ty := 23) (e := 5) (m := 1) (by_ := 1) (v := .slice (some ⟨b1, 0, none⟩) 0 0) (a2 := a) (l2 := xs.length) (c2 := c) (zs := xs) (by as_aux_lemma => kernel_rfl) (by as_aux_lemma => kernel_rfl) rfl H 0 rfl 0 rfl (rfl) (by omega) ?_
 intro a3 c4 w6 H hc5
 have H : Hp w S [] [] [⟨Sb, 5, .slice a3 xs.length c4, xs⟩] [Rp SB [.slice a xs.length c] xs] _ := H
 refine qF 1 [(2, .slice a3 xs.length c4)] ?_
 refine qT (.slice a3 xs.length c4) Try.func33 ?_
 exact ⟨_, rfl, H.done, H.pick [] rfl⟩

/-! what a chunk that comes makes of a read -/
theorem hitR_index {r : Rd} {frm : Int} {hd : Hdr} {i : Nat} (h : hitR r frm hd i = true) : hd.id.index = (i : Int) := by
 unfold hitR at h
 simp only [Bool.and_eq_true, decide_eq_true_eq] at h
 exact congrArg CID.index h.1
theorem gotR_at {r : Rd} {frm : Int} {hd : Hdr} {dt : List (BitVec 8)} {ok : Bool} {i : Nat} (hw : waitsR r = true) (hh : hitR r frm hd i = true) : gotR r frm hd dt ok = if openR r (i : Int) = true then stepR r i hd dt ok else r := by
 have hi : i < r.object.nodes.length := by
  have h := hh
  unfold hitR at h
  simp only [Bool.and_eq_true, decide_eq_true_eq] at h
  exact (List.getElem?_eq_some_iff.1 h.2).1
 unfold gotR
 rw [if_neg (by rw [hw]; decide), rfind_hit hi hh (fun j hj => by
  cases hx : hitR r frm hd j
  · rfl
  · have := (hitR_index hx).symm.trans (hitR_index hh)
    omega)]
theorem gotR_shut {r : Rd} {frm : Int} {hd : Hdr} {dt : List (BitVec 8)} {ok : Bool} (hw : waitsR r = false) : gotR r frm hd dt ok = r := by
 unfold gotR
 rw [if_pos hw]
theorem goodR_iff {xs : List (BitVec 8)} {k n i : Nat} {r : Rd} (h : RdOf xs k n r) (hi : i < n) {hd : Hdr} {dt : List (BitVec 8)} (hdl : dt.length = lenOf xs.length k) (e : hd = { headR r (i : Int) with sum := hd.sum }) : goodR r i hd dt true ↔ crcF dt = hd.sum := by
 have hw := whole_own (dt := dt) (hd := { headR r (i : Int) with sum := hd.sum }) h.hk h.hkn h.hn h.hs hi hdl h.size h.kk h.nn rfl
 unfold goodR
 rw [hw]
 constructor
 · rintro ⟨_, _, h3⟩
   exact Classical.byContradiction fun hc => by
    rw [if_neg hc] at h3
    exact absurd h3 (by decide)
 · intro hc
   exact ⟨rfl, e, if_pos hc⟩
theorem leftTo_add {bad : List Int} {i : Nat} (hb : ¬ (i : Int) ∈ bad) : ∀ n, leftTo (bad ++ [(i : Int)]) n + (if i < n then 1 else 0) = leftTo bad n
 | 0 => rfl
 | n + 1 => by
  have ih := leftTo_add hb n
  by_cases hm : (n : Int) ∈ bad
  · have hni : n ≠ i := fun e => hb (e ▸ hm)
    rw [← leftTo_no hm, ← leftTo_no (List.mem_append_left _ hm), ← ih]
    congr 1
    by_cases h1 : i < n
    · rw [if_pos h1, if_pos (by omega)]
    · rw [if_neg h1, if_neg (by omega)]
  · by_cases hni : n = i
    · subst hni
      rw [← leftTo_yes hm, ← leftTo_no (List.mem_append_right _ (List.mem_singleton.2 rfl)), if_pos (by omega)]
      rw [if_neg (by omega)] at ih
      omega
    · rw [← leftTo_yes hm, ← leftTo_yes (bad := bad ++ [(i : Int)]) (by
       rw [List.mem_append, List.mem_singleton]
       rintro (h1 | h1)
       · exact hm h1
       · exact hni (Int.ofNat.inj h1)), ← ih]
      by_cases h1 : i < n
      · rw [if_pos h1, if_pos (by omega)]
      · rw [if_neg h1, if_neg (by omega)]
theorem leftTo_none : ∀ n, leftTo [] n = n
 | 0 => rfl
 | n + 1 => by rw [← leftTo_yes (by simp), leftTo_none n]
theorem waits_of {xs : List (BitVec 8)} {k n : Nat} {r : Rd} (h : RdOf xs k n r) (hd : r.done = 0) : waitsR r = true := by
 unfold waitsR
 rw [h.nodes, h.nn, hd]
 simp
theorem openR_iff {r : Rd} {i : Nat} : openR r (i : Int) = true ↔ ¬ (i : Int) ∈ r.bad ∧ ¬ (i : Int) ∈ r.pieces.map Pc.index := by
 unfold openR
 simp only [Bool.and_eq_true, Bool.not_eq_true', decide_eq_false_iff_not]
/-- whole chunks come, one by one, all unlike -/
structure Ov (xs : List (BitVec 8)) (k n : Nat) (O : ObjD) (f : Nat → Nat) (r : Rd) (x : Nat) : Prop where
 of : RdOf xs k n r
 ob : r.object = O
 ix : r.pieces.map Pc.index = (List.range x).map fun j => ((f j : Nat) : Int)
 bad : r.bad = []
 dn : r.done = if k ≤ x then 1 else 0
theorem Ov.len {xs : List (BitVec 8)} {k n : Nat} {O : ObjD} {f : Nat → Nat} {r : Rd} {x : Nat} (h : Ov xs k n O f r x) : r.pieces.length = x := by
 have := congrArg List.length h.ix
 simpa using this
theorem Ov.step {xs : List (BitVec 8)} {k n : Nat} {O : ObjD} {f : Nat → Nat} {r : Rd} {x : Nat} (h : Ov xs k n O f r x) (hx : x < k) (hf : f x < n) (hne : ∀ j < x, f j ≠ f x) {frm : Int} {hd : Hdr} (hh : hitR r frm hd (f x) = true) (he : hd = { headR r ((f x : Nat) : Int) with sum := crcF (rowAt (enc xs k n) (f x)) }) :
 Ov xs k n O f (gotR r frm hd (rowAt (enc xs k n) (f x)) true) (x + 1) := by
 have hkn := h.of.hkn
 have ho : openR r ((f x : Nat) : Int) = true := openR_iff.2 ⟨by rw [h.bad]; simp, by
  rw [h.ix]
  intro hm
  obtain ⟨j, hj, e⟩ := List.mem_map.1 hm
  exact hne j (List.mem_range.1 hj) (Int.ofNat.inj e)⟩
 have hg : goodR r (f x) hd (rowAt (enc xs k n) (f x)) true := (goodR_iff h.of hf (row_len hkn hf) (by rw [he])).2 (by rw [he])
 have hp := h.of.put ho hf rfl
 rw [gotR_at (waits_of h.of (by rw [h.dn, if_neg (by omega)])) hh, if_pos ho]
 unfold stepR
 rw [if_pos hg]
 refine ⟨{ hp with }, h.ob, ?_, h.bad, ?_⟩
 · show (r.pieces ++ [_]).map Pc.index = _
   rw [List.map_append, h.ix, List.range_succ, List.map_append]; rfl
 · show judgeR (putR r (f x) (rowAt (enc xs k n) (f x))) = _
   unfold judgeR
   have e1 : ((putR r (f x) (rowAt (enc xs k n) (f x))).pieces.length : Int) = ((x + 1 : Nat) : Int) := by
    show ((r.pieces ++ [_]).length : Int) = _
    rw [List.length_append, h.len]; rfl
   have e2 : leftTo (putR r (f x) (rowAt (enc xs k n) (f x))).bad (putR r (f x) (rowAt (enc xs k n) (f x))).nn.toNat = n := by
    show leftTo r.bad r.nn.toNat = n
    rw [h.bad, h.of.nn, leftTo_none]; rfl
   have e3 : (putR r (f x) (rowAt (enc xs k n) (f x))).kk = (k : Int) := h.of.kk
   rw [e1, e2, e3]
   by_cases hk1 : k ≤ x + 1
   · rw [if_pos (by omega), if_pos hk1]
   · rw [if_neg (by omega), if_neg (by omega), if_neg hk1]
/-- chunks come, whole ones and others -/
def wantOf (k n g l : Nat) : Int := if k ≤ g then 1 else if n < k + l then 2 else 0
structure Gv (xs : List (BitVec 8)) (k n : Nat) (O : ObjD) (r : Rd) (wh bd : List Bool) (g l : Nat) : Prop where
 of : RdOf xs k n r
 ob : r.object = O
 wl : wh.length = n
 bl : bd.length = n
 w : ∀ i < n, wh[i]? = some (decide ((i : Int) ∈ r.pieces.map Pc.index))
 b : ∀ i < n, bd[i]? = some (decide ((i : Int) ∈ r.bad))
 gl : r.pieces.length = g
 ll : leftTo r.bad n + l = n
 dn : r.done = wantOf k n g l
theorem want_wait {k n g l : Nat} (h : g < k ∧ k + l ≤ n) : wantOf k n g l = 0 := by
 unfold wantOf
 rw [if_neg (by omega), if_neg (by omega)]
theorem want_shut {k n g l : Nat} (h : ¬ (g < k ∧ k + l ≤ n)) : wantOf k n g l ≠ 0 := by
 unfold wantOf
 by_cases h1 : k ≤ g
 · rw [if_pos h1]; decide
 · rw [if_neg h1, if_pos (by omega)]; decide
theorem Gv.shut {xs : List (BitVec 8)} {k n : Nat} {O : ObjD} {r : Rd} {wh bd : List Bool} {g l : Nat} (h : Gv xs k n O r wh bd g l) (hs : ¬ (g < k ∧ k + l ≤ n)) {frm : Int} {hd : Hdr} {dt : List (BitVec 8)} {ok : Bool} : gotR r frm hd dt ok = r :=
 gotR_shut (by
  unfold waitsR
  rw [h.dn, beq_eq_false_iff_ne.2 (want_shut hs), Bool.and_false])
theorem Gv.dup {xs : List (BitVec 8)} {k n : Nat} {O : ObjD} {r : Rd} {wh bd : List Bool} {g l : Nat} (h : Gv xs k n O r wh bd g l) (hs : g < k ∧ k + l ≤ n) {i : Nat} (hi : i < n) (hd2 : wh[i]? = some true ∨ bd[i]? = some true) {frm : Int} {hd : Hdr} {dt : List (BitVec 8)} {ok : Bool} (hh : hitR r frm hd i = true) : gotR r frm hd dt ok = r := by
 rw [gotR_at (waits_of h.of (by rw [h.dn, want_wait hs])) hh, if_neg]
 rw [openR_iff]
 rintro ⟨h1, h2⟩
 rcases hd2 with h3 | h3
 · rw [h.w i hi, decide_eq_false h2] at h3; cases h3
 · rw [h.b i hi, decide_eq_false h1] at h3; cases h3
theorem Gv.open {xs : List (BitVec 8)} {k n : Nat} {O : ObjD} {r : Rd} {wh bd : List Bool} {g l : Nat} (h : Gv xs k n O r wh bd g l) {i : Nat} (hi : i < n) (h1 : wh[i]? = some false) (h2 : bd[i]? = some false) : openR r (i : Int) = true := by
 rw [h.w i hi] at h1
 rw [h.b i hi] at h2
 exact openR_iff.2 ⟨of_decide_eq_false (Option.some.inj h2), of_decide_eq_false (Option.some.inj h1)⟩
theorem set_map {q : Nat → Bool} {l : List Bool} {i n : Nat} (hl : l.length = n) (h : ∀ j < n, l[j]? = some (q j)) {q2 : Nat → Bool} (hi : q2 i = true) (hn : ∀ j, j ≠ i → q2 j = q j) : ∀ j < n, (l.set i true)[j]? = some (q2 j) := fun j hj => by
 rw [List.getElem?_set]
 by_cases e : i = j
 · subst e; rw [if_pos rfl, if_pos (by omega), hi]
 · rw [if_neg e, h j hj, hn j (fun e2 => e e2.symm)]
theorem Gv.put {xs : List (BitVec 8)} {k n : Nat} {O : ObjD} {r : Rd} {wh bd : List Bool} {g l : Nat} (h : Gv xs k n O r wh bd g l) (hs : g < k ∧ k + l ≤ n) {i : Nat} (hi : i < n) (h1 : wh[i]? = some false) (h2 : bd[i]? = some false) {frm : Int} {hd : Hdr} (hh : hitR r frm hd i = true) (he : hd = { headR r (i : Int) with sum := crcF (rowAt (enc xs k n) i) }) :
 Gv xs k n O (gotR r frm hd (rowAt (enc xs k n) i) true) (wh.set i true) bd (g + 1) l := by
 have ho := h.open hi h1 h2
 have hg : goodR r i hd (rowAt (enc xs k n) i) true := (goodR_iff h.of hi (row_len h.of.hkn hi) (by rw [he])).2 (by rw [he])
 have hp := h.of.put ho hi rfl
 rw [gotR_at (waits_of h.of (by rw [h.dn, want_wait hs])) hh, if_pos ho]
 unfold stepR
 rw [if_pos hg]
 refine ⟨{ hp with }, h.ob, by rw [List.length_set, h.wl], h.bl, ?_, h.b, ?_, h.ll, ?_⟩
 · refine set_map h.wl h.w ?_ ?_
   · show decide ((i : Int) ∈ (r.pieces ++ [_]).map Pc.index) = true
     simp
   · intro j hj
     have hji : (j : Int) ≠ (i : Int) := by omega
     refine decide_eq_decide.2 ?_
     show (j : Int) ∈ (r.pieces ++ [_]).map Pc.index ↔ _
     rw [List.map_append, List.mem_append]
     simp [hji]
 · show (r.pieces ++ [_]).length = _
   rw [List.length_append, h.gl]; rfl
 · show judgeR (putR r i (rowAt (enc xs k n) i)) = _
   unfold judgeR wantOf
   have e1 : ((putR r i (rowAt (enc xs k n) i)).pieces.length : Int) = ((g + 1 : Nat) : Int) := by
    show ((r.pieces ++ [_]).length : Int) = _
    rw [List.length_append, h.gl]; rfl
   have e2 : leftTo (putR r i (rowAt (enc xs k n) i)).bad (putR r i (rowAt (enc xs k n) i)).nn.toNat = leftTo r.bad n := by
    show leftTo r.bad r.nn.toNat = _
    rw [h.of.nn]; rfl
   have e3 : (putR r i (rowAt (enc xs k n) i)).kk = (k : Int) := h.of.kk
   have hll := h.ll
   rw [e1, e2, e3]
   by_cases hk1 : k ≤ g + 1
   · rw [if_pos (by omega), if_pos hk1]
   · rw [if_neg (by omega), if_neg (by omega), if_neg hk1, if_neg (by omega)]
theorem Gv.bad {xs : List (BitVec 8)} {k n : Nat} {O : ObjD} {r : Rd} {wh bd : List Bool} {g l : Nat} (h : Gv xs k n O r wh bd g l) (hs : g < k ∧ k + l ≤ n) {i : Nat} (hi : i < n) (h1 : wh[i]? = some false) (h2 : bd[i]? = some false) {frm : Int} {hd : Hdr} {dt : List (BitVec 8)} {ok : Bool} (hh : hitR r frm hd i = true) (hg : ¬ goodR r i hd dt ok) :
 Gv xs k n O (gotR r frm hd dt ok) wh (bd.set i true) g (l + 1) := by
 have ho := h.open hi h1 h2
 have hnb := (openR_iff.1 ho).1
 rw [gotR_at (waits_of h.of (by rw [h.dn, want_wait hs])) hh, if_pos ho]
 unfold stepR
 rw [if_neg hg]
 have hla : leftTo (r.bad ++ [(i : Int)]) n + 1 = leftTo r.bad n := by
  have := leftTo_add hnb n
  rwa [if_pos hi] at this
 have hll := h.ll
 refine ⟨{ h.of with }, h.ob, h.wl, by rw [List.length_set, h.bl], h.w, ?_, h.gl, ?_, ?_⟩
 · refine set_map h.bl h.b ?_ ?_
   · show decide ((i : Int) ∈ r.bad ++ [_]) = true
     simp
   · intro j hj
     have hji : (j : Int) ≠ (i : Int) := by omega
     refine decide_eq_decide.2 ?_
     show (j : Int) ∈ r.bad ++ [_] ↔ _
     rw [List.mem_append]
     simp [hji]
 · show leftTo (r.bad ++ [(i : Int)]) n + (l + 1) = n
   omega
 · show judgeR (badR r i) = _
   unfold judgeR wantOf
   have e1 : ((badR r i).pieces.length : Int) = (g : Int) := by
    show ((r.pieces).length : Int) = _
    rw [h.gl]
   have e2 : leftTo (badR r i).bad (badR r i).nn.toNat = leftTo (r.bad ++ [(i : Int)]) n := by
    show leftTo (r.bad ++ [(i : Int)]) r.nn.toNat = _
    rw [h.of.nn]; rfl
   have e3 : (badR r i).kk = (k : Int) := h.of.kk
   rw [e1, e2, e3, if_neg (by omega), if_neg (by omega : ¬ k ≤ g)]
   by_cases hl2 : n < k + (l + 1)
   · rw [if_pos (by omega), if_pos hl2]
   · rw [if_neg (by omega), if_neg hl2]
theorem Gv.begin {xs : List (BitVec 8)} {k n : Nat} {limit : Int} (hk : 1 ≤ k) (hkn : k ≤ n) (hn : n ≤ 255) (hs : xs.length ≤ 65536) : Gv xs k n (objOf xs n) (beginR (objOf xs n) (k : Int) (n : Int) limit) (List.replicate n false) (List.replicate n false) 0 0 := by
 refine ⟨RdOf.begin hk hkn hn hs, rfl, List.length_replicate, List.length_replicate, fun i hi => ?_, fun i hi => ?_, rfl, leftTo_none n, ?_⟩
 · rw [List.getElem?_replicate, if_pos hi]
   exact congrArg some (decide_eq_false (by show ¬ _ ∈ ([] : List Int); simp)).symm
 · rw [List.getElem?_replicate, if_pos hi]
   exact congrArg some (decide_eq_false (by show ¬ _ ∈ ([] : List Int); simp)).symm
 · exact (want_wait (by omega)).symm
theorem Ov.begin {xs : List (BitVec 8)} {k n : Nat} {limit : Int} (f : Nat → Nat) (hk : 1 ≤ k) (hkn : k ≤ n) (hn : n ≤ 255) (hs : xs.length ≤ 65536) : Ov xs k n (objOf xs n) f (beginR (objOf xs n) (k : Int) (n : Int) limit) 0 :=
 ⟨RdOf.begin hk hkn hn hs, rfl, rfl, rfl, by rw [if_neg (by omega)]; rfl⟩
theorem nodesTo_get {n i : Nat} (h : i < n) : (nodesTo n)[i]? = some ((i : Int) + 1) := by
 unfold nodesTo
 rw [List.getElem?_map, List.getElem?_range h]; rfl
theorem hit_own {xs : List (BitVec 8)} {k n i : Nat} {r : Rd} (ho : r.object = objOf xs n) (hi : i < n) {hd : Hdr} (he : hd.id = (hdAt xs k n i).id) : hitR r ((i : Int) + 1) hd i = true := by
 unfold hitR
 have hn : (objOf xs n).nodes = nodesTo n := rfl
 rw [ho, he, hn, nodesTo_get hi]
 simp [hdAt, objOf]
theorem head_own {xs : List (BitVec 8)} {k n i : Nat} {r : Rd} (h : RdOf xs k n r) (ho : r.object = objOf xs n) : hdAt xs k n i = { headR r (i : Int) with sum := crcF (rowAt (enc xs k n) i) } := by
 unfold headR
 rw [ho, h.kk, h.nn]; rfl
theorem rdB_got {r : Rd} {frm : Int} {hd : Hdr} {dt : List (BitVec 8)} {ok : Bool} (h : rdB r) : rdB (gotR r frm hd dt ok) := by
 have hb : ∀ q : Rd, q.object = r.object → q.kk = r.kk → q.nn = r.nn → q.waited = r.waited → q.limit = r.limit → rdB { q with done := judgeR q } := by
  intro q e1 e2 e3 e4 e5
  have hj := judgeR_bd q
  unfold rdB at h ⊢
  simp only [e1, e2, e3, e4, e5]
  obtain ⟨h0, h1, h2, h3, h4, h5, h6, h7, h8, h9⟩ := h
  exact ⟨h0, h1, h2, h3, h4, h5, h6, h7, h8, by omega⟩
 unfold gotR
 split
 · exact h
 · split
   · exact h
   · split
     · unfold stepR
       split
       · exact hb _ rfl rfl rfl rfl rfl
       · exact hb _ rfl rfl rfl rfl rfl
     · exact h
theorem rdB_begin {xs : List (BitVec 8)} {k n : Nat} (hk : 1 ≤ k) (hkn : k ≤ n) (hn : n ≤ 255) (hs : xs.length ≤ 65536) : rdB (beginR (objOf xs n) (k : Int) (n : Int) 100) := by
 have h1 : (objOf xs n).key.size = 1 := rfl
 have h2 : (objOf xs n).size = (xs.length : Int) := rfl
 refine ⟨by show (objOf xs n).key.size ≤ _; rw [h1]; simp [maxLen], ⟨by show (0 : Int) ≤ 7; decide, by show (7 : Int) ≤ _; decide⟩, by show _ ≤ (objOf xs n).size ∧ (objOf xs n).size ≤ _; rw [h2]; omega, ⟨by show (_ : Int) ≤ 0; decide, by show (0 : Int) ≤ _; decide⟩, ⟨by show (0 : Int) ≤ 2; decide, by show (2 : Int) ≤ _; decide⟩, by show _ ≤ (k : Int) ∧ (k : Int) ≤ _; omega, by show _ ≤ (n : Int) ∧ (n : Int) ≤ _; omega, ⟨by show (_ : Int) ≤ 0; decide, by show (0 : Int) ≤ _; decide⟩, ⟨by show (_ : Int) ≤ 100; decide, by show (100 : Int) ≤ _; decide⟩, ⟨by show (_ : Int) ≤ 0; decide, by show (0 : Int) ≤ _; decide⟩⟩
theorem okB_begin {xs : List (BitVec 8)} {k n : Nat} (hk : 1 ≤ k) (hkn : k ≤ n) (hn : n ≤ 255) (hs : xs.length ≤ 65536) : okB (objOf xs n) (k : Int) (n : Int) 100 := by
 have h2 : (objOf xs n).size = (xs.length : Int) := rfl
 have h3 : (objOf xs n).nodes.length = n := nodesTo_len n
 exact ⟨el_ok.2 (by unfold okL; rw [h2]; omega), by omega, by omega, by rw [h3], by omega, by omega⟩


end Go.Proofs.Ytppcdmbkgficiaa
