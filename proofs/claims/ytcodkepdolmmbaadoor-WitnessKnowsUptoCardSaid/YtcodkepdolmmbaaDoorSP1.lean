import Derived.Lib.QuoteLoop
/-
 What strconv.Quote writes can be read back: whatever stands behind it.
 No condition.
-/
namespace Go.Proofs.YtcodkepdolmmbaaDoor
open Go.Lib
def raw (s : ByteArray) (w : Nat) : List Int := (s.data.toList.take w).map fun b => ((b.toNat : Nat) : Int)
def unhex (x : Int) : Nat := if x < 58 then (x - 48).toNat else (x - 87).toNat
theorem unhex_hex {x : Nat} (h : x < 16) : unhex (hexDigit x) = x := by
 unfold unhex hexDigit
 split <;> split <;> omega
def untok : List Int → List Int × List Int
 | 92 :: 120 :: a :: b :: r => ([((unhex a * 16 + unhex b : Nat) : Int)], r)
 | 92 :: 117 :: a :: b :: c :: d :: r => (encodeRuneZ ((((unhex a * 16 + unhex b) * 16 + unhex c) * 16 + unhex d : Nat) : Int), r)
 | 92 :: 85 :: a :: b :: c :: d :: e :: f :: g :: h :: r => (encodeRuneZ ((((((((unhex a * 16 + unhex b) * 16 + unhex c) * 16 + unhex d) * 16 + unhex e) * 16 + unhex f) * 16 + unhex g) * 16 + unhex h : Nat) : Int), r)
 | 92 :: 97 :: r => ([7], r)
 | 92 :: 98 :: r => ([8], r)
 | 92 :: 102 :: r => ([12], r)
 | 92 :: 110 :: r => ([10], r)
 | 92 :: 114 :: r => ([13], r)
 | 92 :: 116 :: r => ([9], r)
 | 92 :: 118 :: r => ([11], r)
 | 92 :: x :: r => ([x], r)
 | a :: r => if a < 128 then ([a], r) else if a / 32 = 6 then (a :: r.take 1, r.drop 1) else if a / 16 = 14 then (a :: r.take 2, r.drop 2) else (a :: r.take 3, r.drop 3)
 | [] => ([], [])
theorem untok_x (a b : Int) (r : List Int) : untok (92 :: 120 :: a :: b :: r) = ([((unhex a * 16 + unhex b : Nat) : Int)], r) := by rw [untok]
theorem untok_plain {a : Int} (h : a ≠ 92) (r : List Int) : untok (a :: r) = if a < 128 then ([a], r) else if a / 32 = 6 then (a :: r.take 1, r.drop 1) else if a / 16 = 14 then (a :: r.take 2, r.drop 2) else (a :: r.take 3, r.drop 3) := by
 rw [untok]
 all_goals (intros; omega)
theorem hexDigits_four (r : Nat) : hexDigits r 4 = [hexDigit (r / 16 ^ 3 % 16), hexDigit (r / 16 ^ 2 % 16), hexDigit (r / 16 ^ 1 % 16), hexDigit (r / 16 ^ 0 % 16)] := rfl
theorem hexDigits_eight (r : Nat) : hexDigits r 8 = [hexDigit (r / 16 ^ 7 % 16), hexDigit (r / 16 ^ 6 % 16), hexDigit (r / 16 ^ 5 % 16), hexDigit (r / 16 ^ 4 % 16), hexDigit (r / 16 ^ 3 % 16), hexDigit (r / 16 ^ 2 % 16), hexDigit (r / 16 ^ 1 % 16), hexDigit (r / 16 ^ 0 % 16)] := rfl
theorem untok_rune {r : Int} (h0 : 0 ≤ r) (h1 : r ≤ 1114111) (hn : r ≠ 92) (t : List Int) : untok (encodeRuneZ r ++ t) = (encodeRuneZ r, t) := by
 unfold encodeRuneZ
 split
 · rw [List.singleton_append, untok_plain (by omega), if_pos (by omega)]
 split
 · simp only [List.cons_append, List.nil_append]
   rw [untok_plain (by omega), if_neg (by omega), if_pos (by omega)]; rfl
 split
 · simp only [List.cons_append, List.nil_append]
   rw [untok_plain (by omega), if_neg (by omega), if_neg (by omega), if_pos (by omega)]; rfl
 split
 · simp only [List.cons_append, List.nil_append]
   rw [untok_plain (by omega), if_neg (by omega), if_neg (by omega), if_neg (by omega)]; rfl
 · simp only [List.cons_append, List.nil_append]
   rw [untok_plain (by omega), if_neg (by omega), if_neg (by omega), if_pos (by omega)]; rfl
theorem untok_esc (T : PrintTabs) {r : Int} (h0 : 0 ≤ r) (hv : validRune r = true) (t : List Int) : untok (escRune T r ++ t) = (encodeRuneZ r, t) := by
 have hv' : r < 55296 ∨ (57343 < r ∧ r ≤ 1114111) := by
  simp only [validRune, decide_eq_true_eq] at hv
  omega
 have e1 : ∀ {x : Int}, 0 ≤ x → x ≤ 127 → encodeRuneZ x = [x] := fun a b => encodeRuneZ_one a b
 unfold escRune
 by_cases c0 : r = 34 ∨ r = 92
 · rw [if_pos c0, e1 h0 (by omega)]
   rcases c0 with rfl | rfl <;> rfl
 rw [if_neg c0]
 by_cases c1 : isPrintR T r = true
 · rw [if_pos c1]; exact untok_rune h0 (by omega) (by omega) t
 rw [if_neg c1]
 by_cases c2 : r = 7
 · subst c2; rfl
 rw [if_neg c2]
 by_cases c3 : r = 8
 · subst c3; rfl
 rw [if_neg c3]
 by_cases c4 : r = 12
 · subst c4; rfl
 rw [if_neg c4]
 by_cases c5 : r = 10
 · subst c5; rfl
 rw [if_neg c5]
 by_cases c6 : r = 13
 · subst c6; rfl
 rw [if_neg c6]
 by_cases c7 : r = 9
 · subst c7; rfl
 rw [if_neg c7]
 by_cases c8 : r = 11
 · subst c8; rfl
 rw [if_neg c8]
 by_cases c9 : r < 32 ∨ r = 127
 · rw [if_pos c9]
   simp only [List.cons_append, List.nil_append]
   rw [untok_x, unhex_hex (by omega), unhex_hex (by omega), e1 h0 (by omega)]
   congr 2
   omega
 rw [if_neg c9]
 rw [if_neg (by rw [hv]; decide)]
 by_cases c11 : r < 65536
 · rw [if_pos c11, hexDigits_four]
   simp only [List.cons_append, List.nil_append]
   rw [untok, unhex_hex (by omega), unhex_hex (by omega), unhex_hex (by omega), unhex_hex (by omega)]
   congr 2
   omega
 · rw [if_neg c11, hexDigits_eight]
   simp only [List.cons_append, List.nil_append]
   rw [untok]
   iterate 8 rw [unhex_hex (by omega)]
   congr 2
   omega
theorem size_list (s : ByteArray) : s.data.toList.length = s.size := Array.length_toList
theorem get_at (s : ByteArray) {i : Nat} (h : i < s.data.toList.length) : s.data.toList[i] = s.get! i := by
 cases s with
 | mk d =>
  have h' : i < d.size := by simpa using h
  show d.toList[i] = d[i]!
  rw [getElem!_pos d i h']; simp
theorem raw_one {s : ByteArray} (h : 1 ≤ s.size) : raw s 1 = [((s.get! 0).toNat : Int)] := by
 have hl := size_list s
 unfold raw
 rw [List.take_succ_eq_append_getElem (by omega), get_at]; rfl
theorem raw_two {s : ByteArray} (h : 2 ≤ s.size) : raw s 2 = [((s.get! 0).toNat : Int), ((s.get! 1).toNat : Int)] := by
 have hl := size_list s
 unfold raw
 rw [List.take_succ_eq_append_getElem (by omega), List.take_succ_eq_append_getElem (by omega), get_at, get_at]; rfl
theorem raw_three {s : ByteArray} (h : 3 ≤ s.size) : raw s 3 = [((s.get! 0).toNat : Int), ((s.get! 1).toNat : Int), ((s.get! 2).toNat : Int)] := by
 have hl := size_list s
 unfold raw
 rw [List.take_succ_eq_append_getElem (by omega), List.take_succ_eq_append_getElem (by omega), List.take_succ_eq_append_getElem (by omega), get_at, get_at, get_at]; rfl
theorem raw_four {s : ByteArray} (h : 4 ≤ s.size) : raw s 4 = [((s.get! 0).toNat : Int), ((s.get! 1).toNat : Int), ((s.get! 2).toNat : Int), ((s.get! 3).toNat : Int)] := by
 have hl := size_list s
 unfold raw
 rw [List.take_succ_eq_append_getElem (by omega), List.take_succ_eq_append_getElem (by omega), List.take_succ_eq_append_getElem (by omega), List.take_succ_eq_append_getElem (by omega), get_at, get_at, get_at, get_at]; rfl
theorem decodeN_enc {n b0 b1 b2 b3 : Nat} (h0 : b0 < 256) (h1 : b1 < 256) (hg : ¬ ((decodeN n b0 b1 b2 b3).2 = 1 ∧ (decodeN n b0 b1 b2 b3).1 = 65533)) :
 ((decodeN n b0 b1 b2 b3).2 = 1 ∧ encodeRuneZ ((decodeN n b0 b1 b2 b3).1 : Int) = [(b0 : Int)]) ∨
 ((decodeN n b0 b1 b2 b3).2 = 2 ∧ 2 ≤ n ∧ encodeRuneZ ((decodeN n b0 b1 b2 b3).1 : Int) = [(b0 : Int), (b1 : Int)]) ∨
 ((decodeN n b0 b1 b2 b3).2 = 3 ∧ 3 ≤ n ∧ encodeRuneZ ((decodeN n b0 b1 b2 b3).1 : Int) = [(b0 : Int), (b1 : Int), (b2 : Int)]) ∨
 ((decodeN n b0 b1 b2 b3).2 = 4 ∧ 4 ≤ n ∧ encodeRuneZ ((decodeN n b0 b1 b2 b3).1 : Int) = [(b0 : Int), (b1 : Int), (b2 : Int), (b3 : Int)]) := by
 have L1 : ∀ {a b : Int}, a = b → [a] = [b] := fun h => by rw [h]
 have L2 : ∀ {a b c d : Int}, a = b → c = d → [a, c] = [b, d] := fun h k => by rw [h, k]
 have L3 : ∀ {a b c d e f : Int}, a = b → c = d → e = f → [a, c, e] = [b, d, f] := fun h k l => by rw [h, k, l]
 have L4 : ∀ {a b c d e f g h : Int}, a = b → c = d → e = f → g = h → [a, c, e, g] = [b, d, f, h] := fun h k l m => by rw [h, k, l, m]
 revert hg
 unfold decodeN
 split
 · intro _; exact .inl ⟨rfl, encodeRuneZ_one (by omega) (by omega)⟩
 split
 · split
   · intro _; refine .inr (.inl ⟨rfl, by omega, ?_⟩)
     unfold encodeRuneZ
     rw [if_neg (by omega), if_pos (by omega)]
     exact L2 (by omega) (by omega)
   · intro h; exact absurd ⟨rfl, rfl⟩ h
 split
 · split
   · intro _; refine .inr (.inr (.inl ⟨rfl, by omega, ?_⟩))
     unfold encodeRuneZ
     rw [if_neg (by omega), if_neg (by omega), if_pos (by omega)]
     exact L3 (by omega) (by omega) (by omega)
   · intro h; exact absurd ⟨rfl, rfl⟩ h
 split
 · split
   · intro _; refine .inr (.inr (.inr ⟨rfl, by omega, ?_⟩))
     unfold encodeRuneZ
     rw [if_neg (by omega), if_neg (by omega), if_neg (by omega), if_pos (by omega)]
     exact L4 (by omega) (by omega) (by omega) (by omega)
   · intro h; exact absurd ⟨rfl, rfl⟩ h
 · intro h; exact absurd ⟨rfl, rfl⟩ h
theorem untok_step (T : PrintTabs) {s : ByteArray} (h : 0 < s.size) (t : List Int) : untok (quoteStep T s ++ t) = (raw s (Utf8.decode s 0).2, t) := by
 have e := decode_at s 0
 by_cases hb : (Utf8.decode s 0).2 = 1 ∧ (Utf8.decode s 0).1 = 65533
 · have hx := UInt8.toNat_lt (s.get! 0)
   rw [hb.1, raw_one (by omega)]
   unfold quoteStep
   rw [if_pos hb]
   simp only [List.cons_append, List.nil_append]
   rw [untok_x, unhex_hex (by omega), unhex_hex (by omega)]
   congr 2
   omega
 · rw [quoteStep_good T s hb, untok_esc T (by omega) (rune_valid s)]
   congr 1
   simp only [Nat.sub_zero, Nat.zero_add] at e
   rw [e] at hb ⊢
   rcases decodeN_enc (UInt8.toNat_lt _) (UInt8.toNat_lt _) hb with ⟨h1, h2⟩ | ⟨h1, h3, h2⟩ | ⟨h1, h3, h2⟩ | ⟨h1, h3, h2⟩
   · rw [h1, h2, raw_one (by omega)]
   · rw [h1, h2, raw_two h3]
   · rw [h1, h2, raw_three h3]
   · rw [h1, h2, raw_four h3]
theorem esc_head (T : PrintTabs) {r : Int} (h0 : 0 ≤ r) : ∃ a l, escRune T r = a :: l ∧ a ≠ 34 := by
 have enc : r ≠ 34 → ∃ a l, encodeRuneZ r = a :: l ∧ a ≠ 34 := fun hr => by
  unfold encodeRuneZ
  split
  · exact ⟨_, _, rfl, hr⟩
  split
  · exact ⟨_, _, rfl, by omega⟩
  split
  · exact ⟨_, _, rfl, by omega⟩
  split
  · exact ⟨_, _, rfl, by omega⟩
  · exact ⟨_, _, rfl, by omega⟩
 have it : ∀ {c : Prop} [Decidable c] {a b : List Int}, (c → ∃ x l, a = x :: l ∧ x ≠ 34) → (∃ x l, b = x :: l ∧ x ≠ 34) → ∃ x l, (if c then a else b) = x :: l ∧ x ≠ 34 := by
  intro c _ a b h1 h2
  by_cases h : c
  · rw [if_pos h]; exact h1 h
  · rw [if_neg h]; exact h2
 have k : ∀ l : List Int, ∃ x l', (92 :: l : List Int) = x :: l' ∧ x ≠ 34 := fun l => ⟨92, l, rfl, by decide⟩
 unfold escRune
 by_cases c0 : r = 34 ∨ r = 92
 · rw [if_pos c0]; exact k _
 rw [if_neg c0]
 exact it (fun _ => enc (by omega)) (it (fun _ => k _) (it (fun _ => k _) (it (fun _ => k _) (it (fun _ => k _) (it (fun _ => k _) (it (fun _ => k _) (it (fun _ => k _) (it (fun _ => k _) (it (fun _ => k _) (it (fun _ => k _) (k _)))))))))))
theorem step_head (T : PrintTabs) (s : ByteArray) : ∃ a l, quoteStep T s = a :: l ∧ a ≠ 34 := by
 unfold quoteStep
 split
 · exact ⟨_, _, rfl, by decide⟩
 · exact esc_head T (by omega)
theorem bytes_of {s s' : ByteArray} (h : s.data.toList = s'.data.toList) : s = s' := by
 cases s; cases s'; simp only [ByteArray.mk.injEq]; exact Array.toList_inj.1 h
theorem extract_list (s : ByteArray) (k : Nat) : (s.extract k s.size).data.toList = s.data.toList.drop k := by
 rw [ByteArray.data_extract, Array.toList_extract]
 simp only [List.extract_eq_take_drop]
 exact List.take_of_length_le (by rw [List.length_drop]; exact Nat.le_refl _)
theorem map_u8 {a b : List UInt8} (h : a.map (fun x => ((x.toNat : Nat) : Int)) = b.map (fun x => ((x.toNat : Nat) : Int))) : a = b := by
 induction a generalizing b with
 | nil => cases b with
  | nil => rfl
  | cons => cases h
 | cons x r ih => cases b with
  | nil => cases h
  | cons y t =>
   simp only [List.map_cons, List.cons.injEq] at h
   have hx : x = y := UInt8.toNat_inj.1 (by omega)
   rw [hx, ih h.2]
theorem from_inj (T : PrintTabs) : ∀ (n : Nat) (s s' : ByteArray) (f f' : Nat) (t t' : List Int), s.size ≤ n → s.size ≤ f → s'.size ≤ f' → quoteFrom T f s ++ 34 :: t = quoteFrom T f' s' ++ 34 :: t' → s = s' ∧ t = t' := by
 intro n
 induction n with
 | zero =>
  intro s s' f f' t t' hn hf hf' h
  rw [quoteFrom_end T f s (by omega)] at h
  by_cases h' : 0 < s'.size
  · rw [quoteFrom_step T f' s' h' hf'] at h
    obtain ⟨a, l, e, ha⟩ := step_head T s'
    rw [e] at h
    simp only [List.nil_append, List.cons_append, List.cons.injEq] at h
    exact absurd h.1.symm ha
  · rw [quoteFrom_end T f' s' h'] at h
    simp only [List.nil_append, List.cons.injEq, true_and] at h
    refine ⟨bytes_of ?_, h⟩
    have e1 : s.data.toList = [] := List.eq_nil_of_length_eq_zero (by rw [size_list]; omega)
    have e2 : s'.data.toList = [] := List.eq_nil_of_length_eq_zero (by rw [size_list]; omega)
    rw [e1, e2]
 | succ n ih =>
  intro s s' f f' t t' hn hf hf' h
  by_cases h0 : 0 < s.size
  · rw [quoteFrom_step T f s h0 hf] at h
    by_cases h' : 0 < s'.size
    · rw [quoteFrom_step T f' s' h' hf', List.append_assoc, List.append_assoc] at h
      have hu := congrArg untok h
      rw [untok_step T h0, untok_step T h'] at hu
      simp only [Prod.mk.injEq] at hu
      have hw := width_pos s 0
      have hw' := width_pos s' 0
      have hl := width_le s h0
      have hl' := width_le s' h'
      obtain ⟨i1, i2⟩ := ih _ _ _ _ _ _ (by rw [size_rest]; omega) (by rw [size_rest]; omega) (by rw [size_rest]; omega) hu.2
      refine ⟨bytes_of ?_, i2⟩
      have hr := map_u8 hu.1
      have hlen := congrArg List.length hr
      rw [List.length_take, List.length_take, size_list, size_list] at hlen
      have hd := congrArg (fun x => x.data.toList) i1
      simp only [extract_list] at hd
      rw [← List.take_append_drop (Utf8.decode s 0).2 s.data.toList, hr, hd, List.take_append_drop]
    · rw [quoteFrom_end T f' s' h', List.append_assoc] at h
      obtain ⟨a, l, e, ha⟩ := step_head T s
      rw [e] at h
      simp only [List.nil_append, List.cons_append, List.cons.injEq] at h
      exact absurd h.1 ha
  · exact ih s s' f f' t t' (by omega) hf hf' h
theorem quote_inj (T : PrintTabs) {s s' : ByteArray} {t t' : List Int} (h : quoteZ T s ++ t = quoteZ T s' ++ t') : s = s' ∧ t = t' := by
 simp only [quoteZ, List.cons_append, List.append_assoc, List.nil_append, List.cons.injEq, true_and] at h
 exact from_inj T _ _ _ _ _ _ _ (Nat.le_refl _) (Nat.le_refl _) (Nat.le_refl _) h
end Go.Proofs.YtcodkepdolmmbaaDoor
