import Derived.Test.YtcodkepdolmmbaaDoorRows
import Derived.Test.YtcodkepdolmmbaaDoorSP1
import Derived.Test.YtcodkepdolmmbaaDoorSBxA
import Derived.Lib.QuoteLoop
import Derived.Lib.ItoaNum
import Derived.Laws.BytesArg
namespace Go.Proofs.YtcodkepdolmmbaaDoor
open Go.BX
open Go.Lib
theorem Tryd_mixed : Tryd.prog.follows .mixedOrders = true := by kernel_rfl
structure Wop where
 client : Int
 seq : Int
 kind : Int
 key : ByteArray
 data : List (BitVec 8)
 code : Int
 answer : List (BitVec 8)
 names : List ByteArray
 beg : Int
 fin : Int
def wopS : Shape Wop := (Shape.pair (Shape.int .u64) (Shape.pair (Shape.int .u64) (Shape.pair (Shape.int .i64) (Shape.pair Shape.str (Shape.pair SB (Shape.pair (Shape.int .i64) (Shape.pair SB (Shape.pair (Shape.slice Shape.str) (Shape.pair (Shape.int .i64) (Shape.int .i64)))))))))).map fun x => (x.client, x.seq, x.kind, x.key, x.data, x.code, x.answer, x.names, x.beg, x.fin)
theorem wop_open {S : Nat → Prop} {w : World} {cs : List Value} {x : Wop} (h : wopS.rep S w cs x) : ∃ a4 : Option Addr, ∃ k4 : Nat, ∃ a6 : Option Addr, ∃ k6 : Nat, ∃ a7 : Option Addr, ∃ k7 : Nat, cs = [.int .u64 x.client, .int .u64 x.seq, .I x.kind, .string x.key, .slice a4 x.data.length k4, .I x.code, .slice a6 x.answer.length k6, .slice a7 x.names.length k7, .I x.beg, .I x.fin] ∧ (0 ≤ x.client ∧ x.client ≤ 18446744073709551615) ∧ (0 ≤ x.seq ∧ x.seq ≤ 18446744073709551615) ∧ ((-9223372036854775808) ≤ x.kind ∧ x.kind ≤ 9223372036854775807) ∧ x.key.size ≤ maxLen ∧ SB.rep S w [.slice a4 x.data.length k4] x.data ∧ ((-9223372036854775808) ≤ x.code ∧ x.code ≤ 9223372036854775807) ∧ SB.rep S w [.slice a6 x.answer.length k6] x.answer ∧ (Shape.slice Shape.str).rep S w [.slice a7 x.names.length k7] x.names ∧ ((-9223372036854775808) ≤ x.beg ∧ x.beg ≤ 9223372036854775807) ∧ ((-9223372036854775808) ≤ x.fin ∧ x.fin ≤ 9223372036854775807) := by
 obtain ⟨c0, d0, rfl, h0, h⟩ := h
 obtain ⟨c1, d1, rfl, h1, h⟩ := h
 obtain ⟨c2, d2, rfl, h2, h⟩ := h
 obtain ⟨c3, d3, rfl, h3, h⟩ := h
 obtain ⟨c4, d4, rfl, h4, h⟩ := h
 obtain ⟨c5, d5, rfl, h5, h⟩ := h
 obtain ⟨c6, d6, rfl, h6, h⟩ := h
 obtain ⟨c7, d7, rfl, h7, h⟩ := h
 obtain ⟨c8, d8, rfl, h8, h⟩ := h
 have h9 := h
 obtain ⟨e0, b0⟩ := h0
 obtain ⟨e1, b1⟩ := h1
 obtain ⟨e2, b2⟩ := h2
 obtain ⟨e3, b3⟩ := h3
 obtain ⟨a4, k4, e4⟩ := Shape.slice_form' h4
 obtain ⟨e5, b5⟩ := h5
 obtain ⟨a6, k6, e6⟩ := Shape.slice_form' h6
 obtain ⟨a7, k7, e7⟩ := Shape.slice_form' h7
 obtain ⟨e8, b8⟩ := h8
 obtain ⟨e9, b9⟩ := h9
 exact ⟨a4, k4, a6, k6, a7, k7, (by simp [e0, e1, e2, e3, e4, e5, e6, e7, e8, e9]), b0, b1, b2, b3, (e4 ▸ h4), b5, (e6 ▸ h6), (e7 ▸ h7), b8, b9⟩
theorem wop_mk {S : Nat → Prop} {w : World} {y0 : Int} {l0 : List Value} (h0 : (Shape.int .u64).rep S w l0 y0) {y1 : Int} {l1 : List Value} (h1 : (Shape.int .u64).rep S w l1 y1) {y2 : Int} {l2 : List Value} (h2 : (Shape.int .i64).rep S w l2 y2) {y3 : ByteArray} {l3 : List Value} (h3 : (Shape.str).rep S w l3 y3) {y4 : List (BitVec 8)} {l4 : List Value} (h4 : SB.rep S w l4 y4) {y5 : Int} {l5 : List Value} (h5 : (Shape.int .i64).rep S w l5 y5) {y6 : List (BitVec 8)} {l6 : List Value} (h6 : SB.rep S w l6 y6) {y7 : List ByteArray} {l7 : List Value} (h7 : (Shape.slice Shape.str).rep S w l7 y7) {y8 : Int} {l8 : List Value} (h8 : (Shape.int .i64).rep S w l8 y8) {y9 : Int} {l9 : List Value} (h9 : (Shape.int .i64).rep S w l9 y9) : wopS.rep S w (l0 ++ (l1 ++ (l2 ++ (l3 ++ (l4 ++ (l5 ++ (l6 ++ (l7 ++ (l8 ++ (l9)))))))))) ⟨y0, y1, y2, y3, y4, y5, y6, y7, y8, y9⟩ := ⟨_, _, rfl, h0, ⟨_, _, rfl, h1, ⟨_, _, rfl, h2, ⟨_, _, rfl, h3, ⟨_, _, rfl, h4, ⟨_, _, rfl, h5, ⟨_, _, rfl, h6, ⟨_, _, rfl, h7, ⟨_, _, rfl, h8, h9⟩⟩⟩⟩⟩⟩⟩⟩⟩
structure Prs where
 key : ByteArray
 data : ByteArray
def prsS : Shape Prs := (Shape.pair Shape.str Shape.str).map fun x => (x.key, x.data)
theorem prs_open {S : Nat → Prop} {w : World} {cs : List Value} {x : Prs} (h : prsS.rep S w cs x) : cs = [.string x.key, .string x.data] ∧ x.key.size ≤ maxLen ∧ x.data.size ≤ maxLen := by
 obtain ⟨c0, d0, rfl, h0, h⟩ := h
 have h1 := h
 obtain ⟨e0, b0⟩ := h0
 obtain ⟨e1, b1⟩ := h1
 exact ⟨(by simp [e0, e1]), b0, b1⟩
theorem prs_mk {S : Nat → Prop} {w : World} {y0 : ByteArray} {l0 : List Value} (h0 : (Shape.str).rep S w l0 y0) {y1 : ByteArray} {l1 : List Value} (h1 : (Shape.str).rep S w l1 y1) : prsS.rep S w (l0 ++ (l1)) ⟨y0, y1⟩ := ⟨_, _, rfl, h0, h1⟩
abbrev Tb := List (ByteArray × ByteArray)
abbrev strB (l : List (BitVec 8)) : ByteArray := Go.BX.strOf l
def klt (a b : ByteArray) : Bool := decide (a.data.toList < b.data.toList)
def tget (S : Tb) (k : ByteArray) : Option ByteArray := (S.find? fun p => decide (p.1 = k)).map (·.2)
def tdel (S : Tb) (k : ByteArray) : Tb := S.filter fun p => decide (p.1 ≠ k)
def tins (k v : ByteArray) : Tb → Tb
 | [] => [(k, v)]
 | p :: r => if klt k p.1 then (k, v) :: p :: r else p :: tins k v r
def tput (S : Tb) (k v : ByteArray) : Tb := tins k v (tdel S k)
def opn (x : Wop) : Bool := decide (x.fin = 0) || decide (x.code = 0) || decide (x.code = 5) || decide (x.code = 6)
def idl (x : Wop) : Bool := !opn x && (decide (x.code = 3) || decide (x.code = 4))
def doT (S : Tb) (x : Wop) : Tb × Bool :=
 let th := (tget S x.key).isSome
 let asB := fun done => opn x || (done && decide (x.code = 1)) || (!th && decide (x.kind ≠ 4) && decide (x.code = 2))
 if x.kind = 1 then (tput S x.key (strB x.data), opn x || decide (x.code = 1))
 else if x.kind = 3 then (tdel S x.key, asB th)
 else if x.kind = 2 then (S, asB (th && decide (tget S x.key = some (strB x.answer))))
 else (S, asB (decide (S.map (·.1) = x.names)))
def badX (x : Wop) : Prop := x.beg < 1 ∨ (x.fin ≠ 0 ∧ x.fin ≤ x.beg) ∨ x.kind < 1 ∨ x.kind > 4 ∨ x.code < 0 ∨ x.code > 6
def clash (x y : Wop) : Prop := x.client = y.client ∧ opn x = false ∧ opn y = false ∧ x.fin ≥ y.beg ∧ y.fin ≥ x.beg
theorem clash_symm {x y : Wop} (h : clash x y) : clash y x := ⟨h.1.symm, h.2.2.1, h.2.1, h.2.2.2.2, h.2.2.2.1⟩
def okH (h : List Wop) : Prop := h.length ≤ 14 ∧ (∀ x ∈ h, ¬ badX x) ∧ h.Pairwise fun x y => ¬ clash x y
def freeF (l : List Wop) (x : Wop) : Prop := ∀ y ∈ l, opn y = true ∨ ¬ y.fin < x.beg
inductive Ex : List Wop → Tb → Prop
 | done {l : List Wop} {S : Tb} : (∀ x ∈ l, opn x = true) → Ex l S
 | step {l r : List Wop} {x : Wop} {S : Tb} : l.Perm (x :: r) → freeF l x → (doT S x).2 = true → Ex r (doT S x).1 → Ex l S
theorem Ex.perm {l : List Wop} {S : Tb} (h : Ex l S) : ∀ {m : List Wop}, m.Perm l → Ex m S := by
 induction h with
 | done h => intro m hp; exact .done fun x hx => h x (hp.mem_iff.1 hx)
 | step h1 h2 h3 h4 _ => intro m hp; exact .step (hp.trans h1) (fun y hy => h2 y (hp.mem_iff.1 hy)) h3 h4
theorem perm_erase : ∀ {l : List Wop} {i : Nat} (h : i < l.length), l.Perm (l[i] :: l.eraseIdx i)
 | _ :: _, 0, _ => List.Perm.refl _
 | a :: l, i + 1, h => ((perm_erase (l := l) (i := i) (Nat.lt_of_succ_lt_succ h)).cons a).trans (List.Perm.swap ..)
theorem Ex_iff {l : List Wop} {S : Tb} : Ex l S ↔ (∀ x ∈ l, opn x = true) ∨ ∃ i, ∃ h : i < l.length, freeF l l[i] ∧ (doT S l[i]).2 = true ∧ Ex (l.eraseIdx i) (doT S l[i]).1 := by
 constructor
 · intro h
   cases h with
   | done h => exact .inl h
   | step h1 h2 h3 h4 =>
    rename_i r x
    obtain ⟨i, hi, rfl⟩ := List.mem_iff_getElem.1 (h1.mem_iff.2 (List.mem_cons_self ..))
    exact .inr ⟨i, hi, h2, h3, h4.perm (List.Perm.cons_inv ((perm_erase hi).symm.trans h1))⟩
 · rintro (h | ⟨i, hi, h2, h3, h4⟩)
   · exact .done h
   · exact .step (perm_erase hi) h2 h3 h4
def left (h : List Wop) : List Wop := h.filter fun x => !idl x
def legalH (h : List Wop) : Prop := okH h ∧ Ex (left h) []
theorem hexDigit_byte {x : Nat} (h : x < 16) : 0 ≤ Go.Lib.hexDigit x ∧ Go.Lib.hexDigit x < 256 := by
 unfold Go.Lib.hexDigit; split <;> omega
theorem hexDigits_byte (r n : Nat) : ∀ x ∈ hexDigits r n, 0 ≤ x ∧ x < 256 := by
 induction n with
 | zero => intro x h; cases h
 | succ n ih =>
  intro x h
  rcases List.mem_cons.1 h with rfl | h
  · exact hexDigit_byte (by omega)
  · exact ih x h
def byteL (l : List Int) : Prop := ∀ x ∈ l, 0 ≤ x ∧ x < 256
theorem byteL_cons {a : Int} {l : List Int} (h : 0 ≤ a ∧ a < 256) (h' : byteL l) : byteL (a :: l) := fun x hx => by
 rcases List.mem_cons.1 hx with rfl | hx
 · exact h
 · exact h' x hx
theorem byteL_nil : byteL [] := fun _ h => by cases h
theorem byteL_append {l m : List Int} (h : byteL l) (h' : byteL m) : byteL (l ++ m) := fun x hx => (List.mem_append.1 hx).elim (h x) (h' x)
theorem escRune_byte (T : PrintTabs) {r : Int} (h0 : 0 ≤ r) : byteL (escRune T r) := by
 have it : ∀ {c : Prop} [Decidable c] {a b : List Int}, (c → byteL a) → (¬ c → byteL b) → byteL (if c then a else b) := by
  intro c _ a b h1 h2
  by_cases h : c
  · rw [if_pos h]; exact h1 h
  · rw [if_neg h]; exact h2 h
 have two : ∀ {a b : Int}, 0 ≤ a ∧ a < 256 → 0 ≤ b ∧ b < 256 → byteL [a, b] := fun h h' => byteL_cons h (byteL_cons h' byteL_nil)
 have k : ∀ {b : Int}, 0 ≤ b ∧ b < 256 → byteL [92, b] := fun h => two (by decide) h
 have hd : ∀ n m, byteL (92 :: n :: hexDigits m 4) ∨ ¬ (0 ≤ n ∧ n < 256) := fun n m => by
  by_cases h : 0 ≤ n ∧ n < 256
  · exact .inl (byteL_cons (by decide) (byteL_cons h (hexDigits_byte _ _)))
  · exact .inr h
 unfold escRune
 exact it (fun h => k (by omega)) fun _ => it (fun _ => encodeRuneZ_byte r) fun _ => it (fun _ => k (by decide)) fun _ => it (fun _ => k (by decide)) fun _ => it (fun _ => k (by decide)) fun _ => it (fun _ => k (by decide)) fun _ => it (fun _ => k (by decide)) fun _ => it (fun _ => k (by decide)) fun _ => it (fun _ => k (by decide)) fun _ =>
  it (fun h => byteL_cons (by decide) (byteL_cons (by decide) (two (hexDigit_byte (by omega)) (hexDigit_byte (by omega))))) fun _ => it (fun _ => byteL_cons (by decide) (byteL_cons (by decide) (hexDigits_byte _ _))) fun _ =>
  it (fun _ => byteL_cons (by decide) (byteL_cons (by decide) (hexDigits_byte _ _))) fun _ => byteL_cons (by decide) (byteL_cons (by decide) (hexDigits_byte _ _))
theorem quoteStep_byte (T : PrintTabs) (s : ByteArray) : byteL (quoteStep T s) := by
 unfold quoteStep
 split
 · have := UInt8.toNat_lt (s.get! 0)
   exact byteL_cons (by decide) (byteL_cons (by decide) (byteL_cons (hexDigit_byte (by omega)) (byteL_cons (hexDigit_byte (by omega)) byteL_nil)))
 · exact escRune_byte T (by omega)
theorem quoteFrom_byte (T : PrintTabs) : ∀ (f : Nat) (s : ByteArray), byteL (quoteFrom T f s)
 | 0, _ => byteL_nil
 | f + 1, s => by
  unfold quoteFrom
  split
  · exact byteL_append (quoteStep_byte T s) (quoteFrom_byte T f _)
  · exact byteL_nil
theorem quoteZ_byte (T : PrintTabs) (s : ByteArray) : byteL (quoteZ T s) := byteL_cons (by decide) (byteL_append (quoteFrom_byte T _ s) (byteL_cons (by decide) byteL_nil))
def toZ (l : List UInt8) : List Int := l.map fun b => ((b.toNat : Nat) : Int)
theorem toZ_append (a b : List UInt8) : toZ (a ++ b) = toZ a ++ toZ b := List.map_append
theorem toZ_nums {l : List Int} (h : byteL l) : toZ (strOfNums l).data.toList = l := by
 rw [strOfNums_data]
 unfold toZ
 rw [List.map_map]
 refine (List.map_congr_left fun x hx => ?_).trans (List.map_id l)
 have := h x hx
 show ((UInt8.ofNat x.toNat).toNat : Int) = id x
 rw [UInt8.toNat_ofNat_of_lt' (by show x.toNat < 256; omega)]
 show ((x.toNat : Nat) : Int) = x
 omega
def quoB (T : PrintTabs) (s : ByteArray) : ByteArray := strOfNums (quoteZ T s)
def pairsB (T : PrintTabs) : Tb → ByteArray
 | [] => ByteArray.empty
 | p :: r => (quoB T p.1 ++ quoB T p.2) ++ pairsB T r
def digB (i : Nat) : ByteArray := ⟨(decDigits i).toArray⟩
def leftB : List Nat → ByteArray
 | [] => ByteArray.empty
 | i :: r => (digB i ++ (⟨#[32]⟩ : ByteArray)) ++ leftB r
def keyB (T : PrintTabs) (l : List Nat) (S : Tb) : ByteArray := leftB l ++ pairsB T S
def bz (s : ByteArray) : List Int := toZ s.data.toList
theorem bz_append (a b : ByteArray) : bz (a ++ b) = bz a ++ bz b := by
 unfold bz
 rw [ByteArray.data_append, Array.toList_append, toZ_append]
theorem bz_quo (T : PrintTabs) (s : ByteArray) : bz (quoB T s) = quoteZ T s := toZ_nums (quoteZ_byte T s)
theorem pairs_inj (T : PrintTabs) : ∀ (S S' : Tb), bz (pairsB T S) = bz (pairsB T S') → S = S'
 | [], [], _ => rfl
 | [], p :: r, h => by
  rw [pairsB, pairsB, bz_append, bz_append, bz_quo, quoteZ] at h
  cases h
 | p :: r, [], h => by
  rw [pairsB, pairsB, bz_append, bz_append, bz_quo, quoteZ] at h
  cases h
 | (a, b) :: r, (a', b') :: r', h => by
  rw [pairsB, pairsB, bz_append, bz_append, bz_append, bz_append, bz_quo, bz_quo, bz_quo, bz_quo, List.append_assoc, List.append_assoc] at h
  obtain ⟨h1, h⟩ := quote_inj T h
  obtain ⟨h2, h⟩ := quote_inj T h
  change a = a' at h1
  change b = b' at h2
  rw [h1, h2, pairs_inj T r r' h]
theorem dig_bytes {i : Nat} (h : i < 100) : bz (digB i) = if i < 10 then [48 + (i : Int)] else [48 + (i / 10 : Int), 48 + (i % 10 : Int)] := by
 unfold bz digB
 by_cases h1 : i < 10
 · rw [decDigits_one h1, if_pos h1]
   show [(((UInt8.ofNat (48 + i)).toNat : Nat) : Int)] = _
   rw [UInt8.toNat_ofNat_of_lt' (by show _ < 256; omega)]
   congr 1
 · rw [decDigits_two h1 h, if_neg h1]
   show [(((UInt8.ofNat (48 + i / 10)).toNat : Nat) : Int), (((UInt8.ofNat (48 + i % 10)).toNat : Nat) : Int)] = _
   rw [UInt8.toNat_ofNat_of_lt' (by show _ < 256; omega), UInt8.toNat_ofNat_of_lt' (by show _ < 256; omega)]
   congr 1
theorem dig_inj {i j : Nat} (hi : i < 100) (hj : j < 100) {t t' : List Int} (h : bz (digB i) ++ 32 :: t = bz (digB j) ++ 32 :: t') : i = j ∧ t = t' := by
 rw [dig_bytes hi, dig_bytes hj] at h
 by_cases h1 : i < 10
 · rw [if_pos h1] at h
   by_cases h2 : j < 10
   · rw [if_pos h2] at h
     simp only [List.cons_append, List.nil_append, List.cons.injEq, true_and] at h
     exact ⟨by omega, h.2⟩
   · rw [if_neg h2] at h
     simp only [List.cons_append, List.nil_append, List.cons.injEq] at h
     omega
 · rw [if_neg h1] at h
   by_cases h2 : j < 10
   · rw [if_pos h2] at h
     simp only [List.cons_append, List.nil_append, List.cons.injEq] at h
     omega
   · rw [if_neg h2] at h
     simp only [List.cons_append, List.nil_append, List.cons.injEq, true_and] at h
     exact ⟨by omega, h.2.2⟩
theorem bz_space : bz (⟨#[32]⟩ : ByteArray) = [32] := by decide
theorem dig_head {i : Nat} (hi : i < 100) : ∃ a l, bz (digB i) = a :: l ∧ a ≠ 34 := by
 rw [dig_bytes hi]
 split
 · exact ⟨_, _, rfl, by omega⟩
 · exact ⟨_, _, rfl, by omega⟩
theorem key_inj (T : PrintTabs) : ∀ (l l' : List Nat) (S S' : Tb), (∀ i ∈ l, i < 100) → (∀ i ∈ l', i < 100) → bz (keyB T l S) = bz (keyB T l' S') → l = l' ∧ S = S'
 | [], [], S, S', _, _, h => by
  simp only [keyB, leftB, bz_append] at h
  exact ⟨rfl, pairs_inj T S S' h⟩
 | [], j :: r, S, S', _, hj, h => by
  simp only [keyB, leftB, bz_append] at h
  obtain ⟨a, l, e, ha⟩ := dig_head (hj j (List.mem_cons_self ..))
  rw [e] at h
  cases S with
  | nil => cases h
  | cons p q =>
   rw [pairsB, bz_append, bz_append, bz_quo, quoteZ] at h
   simp only [List.cons_append] at h
   have h' : (34 : Int) = a := by injection h
   exact absurd h'.symm ha
 | i :: r, [], S, S', hi, _, h => by
  simp only [keyB, leftB, bz_append] at h
  obtain ⟨a, l, e, ha⟩ := dig_head (hi i (List.mem_cons_self ..))
  rw [e] at h
  cases S' with
  | nil => cases h
  | cons p q =>
   rw [pairsB, bz_append, bz_append, bz_quo, quoteZ] at h
   simp only [List.cons_append] at h
   have h' : a = (34 : Int) := by injection h
   exact absurd h' ha
 | i :: r, j :: r', S, S', hi, hj, h => by
  simp only [keyB, leftB, bz_append, bz_space, List.append_assoc, List.cons_append, List.nil_append] at h
  obtain ⟨h1, h2⟩ := dig_inj (hi i (List.mem_cons_self ..)) (hj j (List.mem_cons_self ..)) h
  obtain ⟨h3, h4⟩ := key_inj T r r' S S' (fun x hx => hi x (List.mem_cons_of_mem _ hx)) (fun x hx => hj x (List.mem_cons_of_mem _ hx)) (by simp only [keyB, bz_append]; exact h2)
  exact ⟨by rw [h1, h3], h4⟩
theorem keyB_inj (T : PrintTabs) {l l' : List Nat} {S S' : Tb} (hl : ∀ i ∈ l, i < 100) (hl' : ∀ i ∈ l', i < 100) (h : keyB T l S = keyB T l' S') : l = l' ∧ S = S' := key_inj T l l' S S' hl hl' (by rw [h])
def seqOk : Tb → List Wop → Prop
 | _, [] => True
 | S, x :: r => (doT S x).2 = true ∧ seqOk (doT S x).1 r
def rightP (h : List Wop) : Prop := okH h ∧ (∀ x ∈ h, idl x = false) ∧ seqOk [] h ∧ h.Pairwise fun a b => ¬ (opn b = false ∧ b.fin < a.beg)
theorem Ex.of_seq : ∀ {l : List Wop} {S : Tb}, seqOk S l → (∀ x ∈ l, ¬ badX x) → (l.Pairwise fun a b => ¬ (opn b = false ∧ b.fin < a.beg)) → Ex l S
 | [], S, _, _, _ => .done fun x hx => by cases hx
 | x :: r, S, h, hb, hp => by
  obtain ⟨p1, p2⟩ := List.pairwise_cons.1 hp
  refine .step (List.Perm.refl _) (fun y hy => ?_) h.1 (Ex.of_seq h.2 (fun y hy => hb y (List.mem_cons_of_mem _ hy)) p2)
  rcases List.mem_cons.1 hy with rfl | hy
  · have hb' := hb y (List.mem_cons_self ..)
    unfold badX at hb'
    by_cases hf : y.fin = 0
    · left; simp [opn, hf]
    · right; omega
  · have := p1 y hy
    cases ho : opn y with
    | true => exact .inl rfl
    | false => exact .inr fun hlt => this ⟨ho, hlt⟩
theorem left_all {h : List Wop} (hi : ∀ x ∈ h, idl x = false) : left h = h := List.filter_eq_self.2 fun x hx => by simp [hi x hx]
theorem legalH_right {h : List Wop} (h' : rightP h) : legalH h := by
 refine ⟨h'.1, ?_⟩
 rw [left_all h'.2.1]
 exact Ex.of_seq h'.2.2.1 h'.1.2.1 h'.2.2.2
def knOp (k : ByteArray) (d : List (BitVec 8)) (dd op : Int) (S : Tb) (i : Nat) : Wop :=
 { client := (i : Int) + 1, seq := 0, kind := if d = [] then 3 else 1, key := k, data := d, code := if (i : Int) = op then 6 else if d = [] ∧ tget S k = none then 2 else 1, answer := [], names := [], beg := max 1 (10 * (i : Int) + 100 - dd), fin := 10 * (i : Int) + 105 + dd }
theorem knOp_code (k : ByteArray) (d : List (BitVec 8)) (dd op : Int) (S : Tb) (i : Nat) : (knOp k d dd op S i).code = 6 ∨ (knOp k d dd op S i).code = 2 ∨ (knOp k d dd op S i).code = 1 := by
 unfold knOp
 show (if (i : Int) = op then (6 : Int) else if d = [] ∧ tget S k = none then 2 else 1) = 6 ∨ (if (i : Int) = op then (6 : Int) else if d = [] ∧ tget S k = none then 2 else 1) = 2 ∨ (if (i : Int) = op then (6 : Int) else if d = [] ∧ tget S k = none then 2 else 1) = 1
 split
 · exact .inl rfl
 · split
   · exact .inr (.inl rfl)
   · exact .inr (.inr rfl)
theorem doT_put {S : Tb} {x : Wop} (h : x.kind = 1) : doT S x = (tput S x.key (strB x.data), opn x || decide (x.code = 1)) := by
 unfold doT; rw [if_pos h]
theorem doT_del {S : Tb} {x : Wop} (h : x.kind = 3) : doT S x = (tdel S x.key, opn x || ((tget S x.key).isSome && decide (x.code = 1)) || (!(tget S x.key).isSome && decide (x.kind ≠ 4) && decide (x.code = 2))) := by
 unfold doT; rw [if_neg (by omega), if_pos h]
theorem knOp_do (k : ByteArray) (d : List (BitVec 8)) (dd op : Int) (S : Tb) (i : Nat) : (doT S (knOp k d dd op S i)).2 = true ∧ (doT S (knOp k d dd op S i)).1 = (if d = [] then tdel S k else tput S k (strB d)) := by
 by_cases hd : d = []
 · have e1 : (knOp k d dd op S i).kind = 3 := by simp [knOp, hd]
   rw [doT_del e1, if_pos hd]
   refine ⟨?_, rfl⟩
   by_cases ho : (i : Int) = op
   · simp [opn, knOp, ho]
   · cases ht : tget S k with
     | none => simp [opn, knOp, ho, ht, hd]
     | some v => simp [opn, knOp, ho, ht]
 · have e1 : (knOp k d dd op S i).kind = 1 := by simp [knOp, hd]
   rw [doT_put e1, if_neg hd]
   refine ⟨?_, rfl⟩
   by_cases ho : (i : Int) = op
   · simp [opn, knOp, ho]
   · simp [opn, knOp, ho, hd]
def knH (op : Int) : Nat → Tb → List (ByteArray × List (BitVec 8) × Int) → List Wop
 | _, _, [] => []
 | i, S, (k, d, dd) :: r => knOp k d dd op S i :: knH op (i + 1) (if d = [] then tdel S k else tput S k (strB d)) r
theorem knH_mem {op : Int} : ∀ {l : List (ByteArray × List (BitVec 8) × Int)} {i : Nat} {S : Tb} {x : Wop}, x ∈ knH op i S l → ∃ j k d dd S', i ≤ j ∧ (k, d, dd) ∈ l ∧ x = knOp k d dd op S' j
 | (k, d, dd) :: r, i, S, x, h => by
  rcases List.mem_cons.1 h with rfl | h
  · exact ⟨i, k, d, dd, S, Nat.le_refl _, List.mem_cons_self .., rfl⟩
  · obtain ⟨j, k', d', dd', S', h1, h2, h3⟩ := knH_mem h
    exact ⟨j, k', d', dd', S', by omega, List.mem_cons_of_mem _ h2, h3⟩
theorem knH_len {op : Int} : ∀ {l : List (ByteArray × List (BitVec 8) × Int)} {i : Nat} {S : Tb}, (knH op i S l).length = l.length
 | [], _, _ => rfl
 | (_, _, _) :: _, _, _ => by rw [knH, List.length_cons, knH_len, List.length_cons]
theorem knH_seq {op : Int} : ∀ {l : List (ByteArray × List (BitVec 8) × Int)} {i : Nat} {S : Tb}, seqOk S (knH op i S l)
 | [], _, _ => trivial
 | (k, d, dd) :: r, i, S => by
  have := knOp_do k d dd op S i
  refine ⟨this.1, ?_⟩
  rw [this.2]
  exact knH_seq
theorem knH_pair {op : Int} : ∀ {l : List (ByteArray × List (BitVec 8) × Int)} {i : Nat} {S : Tb}, (∀ p ∈ l, 0 ≤ p.2.2 ∧ p.2.2 ≤ 63) → (knH op i S l).Pairwise (fun a b => ¬ clash a b) ∧ (knH op i S l).Pairwise fun a b => ¬ (opn b = false ∧ b.fin < a.beg)
 | [], _, _, _ => ⟨List.Pairwise.nil, List.Pairwise.nil⟩
 | (k, d, dd) :: r, i, S, h => by
  have ih := knH_pair (op := op) (l := r) (i := i + 1) (S := if d = [] then tdel S k else tput S k (strB d)) fun p hp => h p (List.mem_cons_of_mem _ hp)
  have h0 := h _ (List.mem_cons_self ..)
  refine ⟨List.pairwise_cons.2 ⟨fun y hy => ?_, ih.1⟩, List.pairwise_cons.2 ⟨fun y hy => ?_, ih.2⟩⟩
  · obtain ⟨j, k', d', dd', S', h1, h2, rfl⟩ := knH_mem hy
    intro hc
    have := hc.1
    simp only [knOp] at this
    omega
  · obtain ⟨j, k', d', dd', S', h1, h2, rfl⟩ := knH_mem hy
    intro hc
    have := hc.2
    have h3 := h _ (List.mem_cons_of_mem _ h2)
    simp only [knOp] at this h3 h0
    omega
theorem knH_right {op : Int} {l : List (ByteArray × List (BitVec 8) × Int)} (hl : l.length ≤ 14) (h : ∀ p ∈ l, 0 ≤ p.2.2 ∧ p.2.2 ≤ 63) : rightP (knH op 0 [] l) := by
 refine ⟨⟨by rw [knH_len]; exact hl, fun x hx => ?_, (knH_pair h).1⟩, fun x hx => ?_, knH_seq, (knH_pair h).2⟩
 · obtain ⟨j, k, d, dd, S, h1, h2, rfl⟩ := knH_mem hx
   have := h _ h2
   have hc := knOp_code k d dd op S j
   unfold badX
   refine fun hb => ?_
   have hk : (knOp k d dd op S j).kind = 1 ∨ (knOp k d dd op S j).kind = 3 := by
    unfold knOp
    show (if d = [] then (3 : Int) else 1) = 1 ∨ (if d = [] then (3 : Int) else 1) = 3
    split
    · exact .inr rfl
    · exact .inl rfl
   have hg : (knOp k d dd op S j).beg = max 1 (10 * (j : Int) + 100 - dd) := rfl
   have hf : (knOp k d dd op S j).fin = 10 * (j : Int) + 105 + dd := rfl
   simp only at this
   omega
 · obtain ⟨j, k, d, dd, S, h1, h2, rfl⟩ := knH_mem hx
   have hc := knOp_code k d dd op S j
   generalize knOp k d dd op S j = x at hc
   simp only [idl, Bool.and_eq_false_iff, Bool.or_eq_false_iff, decide_eq_false_iff_not]
   right
   omega
theorem knH_snoc {op : Int} : ∀ {l : List (ByteArray × List (BitVec 8) × Int)} {i : Nat} {S : Tb} {p : ByteArray × List (BitVec 8) × Int}, knH op i S (l ++ [p]) = knH op i S l ++ [knOp p.1 p.2.1 p.2.2 op (l.foldl (fun S p => if p.2.1 = [] then tdel S p.1 else tput S p.1 (strB p.2.1)) S) (i + l.length)]
 | [], i, S, p => rfl
 | (k, d, dd) :: r, i, S, p => by
  rw [List.cons_append, knH, knH_snoc, knH, List.foldl_cons, List.length_cons, List.cons_append, show i + 1 + r.length = i + (r.length + 1) by omega]
def exB : Nat → List Wop → Tb → Bool
 | 0, l, _ => l.all opn
 | n + 1, l, S => l.all opn || (List.range l.length).any fun i => match l[i]? with
  | some x => l.all (fun y => opn y || !decide (y.fin < x.beg)) && (doT S x).2 && exB n (l.eraseIdx i) (doT S x).1
  | none => false
theorem exB_iff : ∀ (n : Nat) (l : List Wop) (S : Tb), l.length ≤ n → (exB n l S = true ↔ Ex l S)
 | 0, l, S, h => by
  rw [exB, List.all_eq_true]
  constructor
  · exact fun h' => .done h'
  · intro h' x hx
    have : l = [] := List.eq_nil_of_length_eq_zero (by omega)
    subst this
    cases hx
 | n + 1, l, S, h => by
  rw [exB, Ex_iff, Bool.or_eq_true, List.all_eq_true, List.any_eq_true]
  refine or_congr Iff.rfl ?_
  constructor
  · rintro ⟨i, hi, h'⟩
    have hl := List.mem_range.1 hi
    rw [List.getElem?_eq_getElem hl] at h'
    simp only [Bool.and_eq_true, List.all_eq_true, Bool.or_eq_true, Bool.not_eq_true', decide_eq_false_iff_not] at h'
    exact ⟨i, hl, h'.1.1, h'.1.2, (exB_iff n _ _ (by rw [List.length_eraseIdx_of_lt hl]; omega)).1 h'.2⟩
  · rintro ⟨i, hl, h1, h2, h3⟩
    refine ⟨i, List.mem_range.2 hl, ?_⟩
    rw [List.getElem?_eq_getElem hl]
    simp only [Bool.and_eq_true, List.all_eq_true, Bool.or_eq_true, Bool.not_eq_true', decide_eq_false_iff_not]
    exact ⟨⟨h1, h2⟩, (exB_iff n _ _ (by rw [List.length_eraseIdx_of_lt hl]; omega)).2 h3⟩
def okB (h : List Wop) : Bool := decide (h.length ≤ 14) && h.all (fun x => !(decide (x.beg < 1) || (!decide (x.fin = 0) && decide (x.fin ≤ x.beg)) || decide (x.kind < 1) || decide (x.kind > 4) || decide (x.code < 0) || decide (x.code > 6))) && (List.range h.length).all fun i => (List.range i).all fun k => match h[i]?, h[k]? with
 | some x, some y => !(decide (x.client = y.client) && !opn x && !opn y && decide (x.fin ≥ y.beg) && decide (y.fin ≥ x.beg))
 | _, _ => true
theorem okB_of {h : List Wop} (hb : okB h = true) : okH h := by
 unfold okB at hb
 simp only [Bool.and_eq_true, decide_eq_true_eq, List.all_eq_true] at hb
 refine ⟨hb.1.1, fun x hx hbad => ?_, ?_⟩
 · have := hb.1.2 x hx
   simp only [Bool.not_eq_true', Bool.or_eq_false_iff, decide_eq_false_iff_not, Bool.and_eq_false_iff, Bool.not_eq_false', decide_eq_true_eq] at this
   unfold badX at hbad
   omega
 · rw [List.pairwise_iff_getElem]
   intro k i hk hi hki hc
   have := hb.2 i (List.mem_range.2 hi) k (List.mem_range.2 hki)
   rw [List.getElem?_eq_getElem hi, List.getElem?_eq_getElem hk] at this
   obtain ⟨c1, c2, c3, c4, c5⟩ := hc
   simp only [c1, c2, c3, Bool.not_false, Bool.and_true, decide_true, Bool.true_and, Bool.not_eq_true', Bool.and_eq_false_iff, decide_eq_false_iff_not] at this
   omega
def hdPut : Wop := { client := 1, seq := 0, kind := 1, key := ⟨#[97]⟩, data := [1#8], code := 1, answer := [], names := [], beg := 1, fin := 2 }
def hdGet : Wop := { client := 2, seq := 0, kind := 2, key := ⟨#[97]⟩, data := [], code := 1, answer := [1#8], names := [], beg := 3, fin := 4 }
def hdNone (b : Int) : Wop := { client := 2, seq := 0, kind := 2, key := ⟨#[97]⟩, data := [], code := 2, answer := [], names := [], beg := b, fin := 4 }
def hdZero : Wop := { client := 0, seq := 0, kind := 0, key := ⟨#[]⟩, data := [], code := 0, answer := [], names := [], beg := 0, fin := 0 }
theorem left_hd (x y : Wop) (hx : idl x = false) (hy : idl y = false) : left [x, y] = [x, y] := left_all fun z hz => by
 rcases List.mem_cons.1 hz with rfl | hz
 · exact hx
 · rcases List.mem_cons.1 hz with rfl | hz
   · exact hy
   · cases hz
theorem hd_a : legalH [hdPut, hdGet] := ⟨okB_of (by decide +kernel), by rw [left_hd _ _ (by decide) (by decide)]; exact (exB_iff 2 _ _ (by decide)).1 (by decide +kernel)⟩
theorem hd_b : ¬ legalH [hdPut, hdNone 3] := fun h => by
 have h2 := h.2
 rw [left_hd _ _ (by decide) (by decide)] at h2
 have h3 := (exB_iff 2 _ _ (by decide)).2 h2
 rw [show exB 2 [hdPut, hdNone 3] [] = false by decide +kernel] at h3
 cases h3
theorem hd_c : legalH [hdPut, hdNone 1] := ⟨okB_of (by decide +kernel), by rw [left_hd _ _ (by decide) (by decide)]; exact (exB_iff 2 _ _ (by decide)).1 (by decide +kernel)⟩
theorem hd_bok : okH [hdPut, hdNone 3] := okB_of (by decide +kernel)
theorem hd_h : ¬ okH [hdZero] := fun h => h.2.1 hdZero (List.mem_cons_self ..) (.inl (by decide))
theorem hd_r : rightP [hdPut, hdGet] := by
 refine ⟨okB_of (by decide +kernel), fun z hz => ?_, ⟨by decide +kernel, by decide +kernel, trivial⟩, ?_⟩
 · rcases List.mem_cons.1 hz with rfl | hz
   · decide
   · rcases List.mem_cons.1 hz with rfl | hz
     · decide
     · cases hz
 · refine List.pairwise_cons.2 ⟨fun y hy => ?_, List.pairwise_cons.2 ⟨fun y hy => (by cases hy), List.Pairwise.nil⟩⟩
   rcases List.mem_cons.1 hy with rfl | hy
   · intro h; exact absurd h.2 (by decide)
   · cases hy
end Go.Proofs.YtcodkepdolmmbaaDoor
