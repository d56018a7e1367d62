import Derived.Test.YtdnibpclkhenmaaGreatDoorSJ1
import Derived.Lib.ItoaNum
import Derived.Lib.Atoi
import Derived.Lib.Strings
namespace Go.Proofs.YtdnibpclkhenmaaGreatDoor
open Go.BX
theorem digitVal_dig {d : Nat} (h : d < 10) : Lib.digitVal (UInt8.ofNat (48 + d)) = some d := by
 unfold Lib.digitVal
 rw [UInt8.toNat_ofNat']
 have : (48 + d) % 2 ^ 8 = 48 + d := by omega
 rw [this, if_pos (by omega)]
 congr 1; omega
theorem decFrom_app : ∀ (l m : List UInt8) (acc : Nat), Lib.decFrom acc (l ++ m) = (Lib.decFrom acc l).bind fun a => Lib.decFrom a m
 | [], m, acc => rfl
 | b :: l, m, acc => by
  rw [List.cons_append, Lib.decFrom, Lib.decFrom]
  cases Lib.digitVal b with
  | none => rfl
  | some d => exact decFrom_app l m _
theorem decFrom_dec : ∀ n : Nat, Lib.decFrom 0 (Lib.decDigits n) = some n := by
 intro n
 induction n using Nat.strongRecOn with
 | _ n ih =>
  rw [Lib.decDigits]
  split
  · rename_i h
    rw [Lib.decFrom, digitVal_dig h]
    simp [Lib.decFrom]
  · rename_i h
    rw [decFrom_app, ih (n / 10) (by omega), Option.bind_some, Lib.decFrom, digitVal_dig (by omega)]
    simp only [Lib.decFrom, Option.some.injEq]; omega
theorem dec_head : ∀ n : Nat, ∃ d r, d < 10 ∧ Lib.decDigits n = UInt8.ofNat (48 + d) :: r := by
 intro n
 induction n using Nat.strongRecOn with
 | _ n ih =>
  rw [Lib.decDigits]
  split
  · rename_i h
    exact ⟨n, [], h, rfl⟩
  · rename_i h
    obtain ⟨d, r, a, b⟩ := ih (n / 10) (by omega)
    exact ⟨d, r ++ [UInt8.ofNat (48 + n % 10)], a, by rw [b]; rfl⟩
theorem atoi_dec (n : Nat) : Lib.atoi (Lib.decDigits n) = some (n : Int) := by
 obtain ⟨d, r, _, c⟩ := dec_head n
 have a := decFrom_dec n
 have e : (UInt8.ofNat (48 + d)).toNat = 48 + d := by rw [UInt8.toNat_ofNat']; omega
 have f : (UInt8.ofNat (48 + d) == 45) = false := by
  rw [beq_eq_false_iff_ne]
  intro q
  have := congrArg UInt8.toNat q
  rw [e] at this
  have b : (45 : UInt8).toNat = 45 := rfl
  omega
 have g : (UInt8.ofNat (48 + d) == 43) = false := by
  rw [beq_eq_false_iff_ne]
  intro q
  have := congrArg UInt8.toNat q
  rw [e] at this
  have b : (43 : UInt8).toNat = 43 := rfl
  omega
 rw [c] at a ⊢
 simp only [Lib.atoi, f, g, Bool.false_eq_true, if_false]
 unfold Lib.decNat
 rw [List.isEmpty_cons]
 simp only [Bool.false_eq_true, if_false, a, Option.map_some]
def dotB : ByteArray := ⟨#[46]⟩
def kS : ByteArray := ⟨#[115]⟩
def kC : ByteArray := ⟨#[99]⟩
def digB (n : Nat) : ByteArray := ⟨(Lib.decDigits n).toArray⟩
def fN (nm kd : ByteArray) (n : Nat) : ByteArray := nm ++ dotB ++ kd ++ digB n
def tN (nm : ByteArray) : ByteArray := nm ++ (⟨#[46, 116]⟩ : ByteArray)
abbrev sN (nm : ByteArray) (n : Nat) : ByteArray := fN nm kS n
abbrev cN (nm : ByteArray) (n : Nat) : ByteArray := fN nm kC n
def PlainB (nm : ByteArray) : Prop := nm.size ≤ 16 ∧ ∀ b ∈ nm.data.toList, 97 ≤ b.toNat ∧ b.toNat ≤ 122
theorem fN_list (nm kd : ByteArray) (n : Nat) : (fN nm kd n).data.toList = nm.data.toList ++ 46 :: (kd.data.toList ++ Lib.decDigits n) := by
 unfold fN dotB digB
 simp
theorem tN_list (nm : ByteArray) : (tN nm).data.toList = nm.data.toList ++ [46, 116] := by
 unfold tN
 simp
theorem bytes_ext {a b : ByteArray} (h : a.data.toList = b.data.toList) : a = b := by
 cases a; cases b
 congr 1
 exact Array.toList_inj.1 h
theorem split_dot : ∀ {a b : List UInt8} {x y : List UInt8}, (∀ c ∈ a, c ≠ 46) → (∀ c ∈ b, c ≠ 46) → a ++ 46 :: x = b ++ 46 :: y → a = b ∧ x = y
 | [], [], x, y, _, _, h => ⟨rfl, by simpa using h⟩
 | [], c :: b, x, y, _, hb, h => by
  rw [List.nil_append, List.cons_append] at h
  injection h with h1 h2
  exact absurd h1.symm (hb c (List.mem_cons_self ..))
 | c :: a, [], x, y, ha, _, h => by
  rw [List.nil_append, List.cons_append] at h
  injection h with h1 h2
  exact absurd h1 (ha c (List.mem_cons_self ..))
 | c :: a, d :: b, x, y, ha, hb, h => by
  rw [List.cons_append, List.cons_append] at h
  injection h with h1 h2
  obtain ⟨h3, h4⟩ := split_dot (fun q hq => ha q (List.mem_cons_of_mem _ hq)) (fun q hq => hb q (List.mem_cons_of_mem _ hq)) h2
  exact ⟨by rw [h1, h3], h4⟩
theorem plain_dot {nm : ByteArray} (h : PlainB nm) : ∀ c ∈ nm.data.toList, c ≠ 46 := fun c hc q => by
 have := (h.2 c hc).1
 rw [q] at this
 revert this; decide
theorem dec_inj {a b : Nat} (h : Lib.decDigits a = Lib.decDigits b) : a = b := by
 have c := decFrom_dec a
 rw [h, decFrom_dec b] at c
 injection c with c
 exact c.symm
theorem fN_inj {nm nm' : ByteArray} (h1 : PlainB nm) (h2 : PlainB nm') {kd kd' : ByteArray} (k1 : kd = kS ∨ kd = kC) (k2 : kd' = kS ∨ kd' = kC) {n n' : Nat} (h : fN nm kd n = fN nm' kd' n') : nm = nm' ∧ kd = kd' ∧ n = n' := by
 have e := congrArg (fun q => q.data.toList) h
 simp only [fN_list] at e
 obtain ⟨b, a⟩ := split_dot (plain_dot h1) (plain_dot h2) e
 refine ⟨bytes_ext b, ?_⟩
 rcases k1 with rfl | rfl <;> rcases k2 with rfl | rfl
 · injection a with _ a; exact ⟨rfl, dec_inj a⟩
 · injection a with a; exact absurd a (by decide)
 · injection a with a; exact absurd a (by decide)
 · injection a with _ a; exact ⟨rfl, dec_inj a⟩
theorem fN_ne_t {nm nm' : ByteArray} (h1 : PlainB nm) (h2 : PlainB nm') {kd : ByteArray} (k1 : kd = kS ∨ kd = kC) {n : Nat} : fN nm kd n ≠ tN nm' := fun h => by
 have e := congrArg (fun q => q.data.toList) h
 simp only [fN_list, tN_list] at e
 obtain ⟨-, e2⟩ := split_dot (plain_dot h1) (plain_dot h2) e
 rcases k1 with rfl | rfl
 · injection e2 with e2; exact absurd e2 (by decide)
 · injection e2 with e2; exact absurd e2 (by decide)
theorem tN_inj {nm nm' : ByteArray} (h1 : PlainB nm) (h2 : PlainB nm') (h : tN nm = tN nm') : nm = nm' := by
 have e := congrArg (fun q => q.data.toList) h
 simp only [tN_list] at e
 exact bytes_ext (split_dot (plain_dot h1) (plain_dot h2) e).1
inductive FForm : ByteArray → Prop
 | file {nm kd : ByteArray} {n : Nat} : PlainB nm → kd = kS ∨ kd = kC → 1 ≤ n → n ≤ 1000000 → FForm (fN nm kd n)
 | temp {nm : ByteArray} : PlainB nm → FForm (tN nm)
theorem FForm.pos {nm kd : ByteArray} {n : Nat} (hp : PlainB nm) (hk : kd = kS ∨ kd = kC) (h : FForm (fN nm kd n)) : 1 ≤ n ∧ n ≤ 1000000 := by
 generalize he : fN nm kd n = x at h
 cases h with
 | file h1 h2 h3 h4 =>
  have := (fN_inj hp h1 hk h2 he).2.2
  subst this
  exact ⟨h3, h4⟩
 | temp h1 => exact absurd he (fN_ne_t hp h1 hk)
end Go.Proofs.YtdnibpclkhenmaaGreatDoor
