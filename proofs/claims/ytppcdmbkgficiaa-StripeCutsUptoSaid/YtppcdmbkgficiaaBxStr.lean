/-
  THE ENGINE's STRINGS: bytes made a string.
  No condition.
-/
import Derived.Test.YtppcdmbkgficiaaBxArr
import Derived.Laws.BytesString
import Derived.Laws.IdiomStrings
namespace Go.BX

def strOf (xs : List (BitVec 8)) : ByteArray := (xs.map fun x => ((x.toNat : Nat) : Int)).foldl (fun r n => r.push (UInt8.ofNat n.toNat)) ByteArray.empty

theorem bv_flat {kd : IntKind} {N : Nat} {S : Nat → Prop} {w : World} {news : List Value} {xs : List (BitVec N)} (hl : news.length = xs.length * (Shape.bv kd N).size) (h : ∀ i x, xs[i]? = some x → (Shape.bv kd N).rep S w ((news.drop (i * (Shape.bv kd N).size)).take (Shape.bv kd N).size) x) :
    news = xs.map fun x => Value.int kd ((x.toNat : Nat) : Int) := by
  have hl' : news.length = xs.length := by rw [hl]; exact Nat.mul_one _
  apply List.ext_getElem?
  intro i
  rw [List.getElem?_map]
  cases hx : xs[i]? with
  | none =>
    have := List.getElem?_eq_none_iff.1 hx
    rw [List.getElem?_eq_none (by omega)]; rfl
  | some x =>
    have h1 := h i x hx
    have e1 : i * (Shape.bv kd N).size = i := Nat.mul_one i
    rw [e1] at h1
    have h2 : (news.drop i).take 1 = [Value.int kd ((x.toNat : Nat) : Int)] := h1
    have hlt := (List.getElem?_eq_some_iff.1 hx).1
    rw [List.drop_eq_getElem_cons (by omega), List.take_succ_cons, List.take_zero] at h2
    rw [List.getElem?_eq_getElem (by omega)]
    simp only [List.cons.injEq, and_true] at h2
    rw [h2]; rfl

section
variable {P : Program} {n : Nat} {ds : List Deferred} {ops : Array Oper} {K : Env → World → Prop} {l r : List (Nat × Kd)} {σ : Env} {w : World} {κ : Kd} {d : Option Tmp}

def strE (P : Program) (Ts Td e : TypeId) : Bool := match P.underlying Ts, P.underlying Td, P.underlying e with
  | some (.slice e'), some .string, some (.int .u8) => Nat.beq e' e
  | _, _, _ => false

theorem toStr_run {S : Nat → Prop} {a : Option Addr} {len cap : Nat} {xs : List (BitVec 8)} (h : (Shape.bv .u8 8).slice.rep S w [.slice a len cap] xs) : (Conv.bytesToString (.slice a len cap)).run P w = .ok (.string (strOf xs)) w := by
  obtain ⟨rfl, k1, k2, hE⟩ := Shape.elems_of h
  by_cases hne : xs = []
  · subst hne
    cases a with
    | none => rfl
    | some a =>
      exact run_bytesToString (P := P) w a 0 cap [] (by simp [loadCells, loadCellsFrom])
  · obtain ⟨b, o, news, rfl, hS, hn, hc, h1, hr⟩ := elems_flat hE hne
    have e := bv_flat hn hr
    have hl : news.length = xs.length := by rw [hn]; exact Nat.mul_one _
    have hld := loadCellsFrom_run (P := P) (b := b) (o := o) xs.length 0 #[] news w hl (fun j v hj => by rw [Nat.add_zero]; exact hc j v hj)
    refine run_bytesToString (P := P) w ⟨b, o, none⟩ xs.length cap (xs.map fun x => ((x.toNat : Nat) : Int)) ?_
    rw [List.map_map]
    have e2 : news = xs.map (Value.int .u8 ∘ fun x => ((x.toNat : Nat) : Int)) := by rw [e]; rfl
    rw [← e2]
    simpa [loadCells] using hld

/-- string(bytes) -/
theorem RW.toStr {S : Nat → Prop} {Ts Td : TypeId} (e : TypeId) {a : Option Addr} {len cap : Nat} {xs : List (BitVec 8)} (hl : look P n ops l σ = some (κ, semV (convert Ts Td (.slice a len cap)), d, r)) (hT : strE P Ts Td e = true)
    (h : (Shape.bv .u8 8).slice.rep S w [.slice a len cap] xs) (hk : RW P ops n ds K r (putO d (.string (strOf xs)) σ) w) : RW P ops n ds K l σ w := by
  refine RW.readS hl (fun w' he => semV_run ?_) hk
  unfold strE at hT
  split at hT
  · rename_i e' h1 h2 h3
    obtain rfl := Nat.eq_of_beq_eq_true hT
    rw [run_convert_bytes_string w' Ts Td e' a len cap h1 h3 h2]
    have hlt : ∀ b, S b → b < w.heap.size → S b ∧ w'.heap[b]? = w.heap[b]? := fun b hb hlt => ⟨hb, Go.RowKit.Below.block he b hlt⟩
    exact toStr_run ((Shape.bv .u8 8).slice.step h hlt)
  · cases hT

def bytesOf (s : ByteArray) : List (BitVec 8) := s.data.toList.map fun b => BitVec.ofNat 8 b.toNat
theorem bytesOf_len (s : ByteArray) : (bytesOf s).length = s.size := by simp [bytesOf]

/-- []byte(string) -/
theorem RW.ofStr {w0 : World} {S : Nat → Prop} {O : List Nat} {M : Heap} {W : List OwnS} {G : List Fact} {Ts Td : TypeId} (e : TypeId) {s : ByteArray} (hl : look P n ops l σ = some (κ, semV (convert Ts Td (.string s)), d, r)) (hκ : κ ≠ .qui) (hT : strE P Td Ts e = true) (hs : s.size ≤ maxLen)
    (H : Hp w0 S O M W G w) (h : ∀ a c w', Hp w0 S O M W (Rp (Shape.bv .u8 8).slice [.slice a (bytesOf s).length c] (bytesOf s) :: G) w' → RW P ops n ds K r (putO d (.slice a (bytesOf s).length c) σ) w') : RW P ops n ds K l σ w := by
  unfold strE at hT
  split at hT
  · rename_i e' h1 h2 h3
    obtain rfl := Nat.eq_of_beq_eq_true hT
    have hr := run_bytes_of_string (P := P) w Ts Td e' s h2 h1 h3
    have hge := grownCap_ge w s.size 0 e'
    have hle := grownCap_le_maxLen w s.size 0 e' hs
    rw [← bytesOf_len] at hr hge hle
    generalize grownCap w (bytesOf s).length 0 e' = cap at hr hge hle
    generalize hC : bytesRow s cap = C at hr
    have he : Ext w (w.drew.alloc (.cells C e' (C.size, C.size + 1))) := ⟨rfl, rfl, rfl, (by show w.heap.size ≤ (w.heap.push _).size; simp), fun k hk => by
      show (w.heap.push _)[k]? = _
      rw [Array.getElem?_push, if_neg (by omega)]⟩
    refine RW.makeS hl hκ (semV_run hr) he (h _ _ _ (H.addN he ⟨_, cap, rfl, hge, hle, fun i x hx => ?_⟩))
    have hlt := (List.getElem?_eq_some_iff.1 hx).1
    refine ⟨w.heap.size, 0, [.int .u8 ((x.toNat : Nat) : Int)], rfl, .inr (Nat.le_refl _), fun j v hj => ?_, rfl⟩
    have hj0 : j = 0 := by have := (List.getElem?_eq_some_iff.1 hj).1; simp at this; exact this
    subst hj0
    simp only [List.getElem?_cons_zero, Option.some.injEq] at hj
    subst hj
    have hh : (w.drew.alloc (.cells C e' (C.size, C.size + 1))).heap[w.heap.size]? = some (.cells C e' (C.size, C.size + 1)) := by
      show (w.heap.push _)[w.heap.size]? = _
      simp
    have hsz : (Shape.bv .u8 8).size = 1 := rfl
    simp only [World.cell?, hh, hsz, Nat.zero_add, Nat.mul_one, Nat.add_zero]
    subst hC
    have hi : i < s.data.size := by rw [bytesOf_len] at hlt; exact hlt
    simp only [bytesOf, List.getElem?_map, Array.getElem?_toList, Array.getElem?_eq_getElem hi, Option.map_some, Option.some.injEq] at hx
    subst hx
    have hb := (s.data[i]).toNat_lt
    simp only [bytesRow]
    rw [Array.getElem?_append_left (by simpa using hi)]
    simp only [Array.getElem?_map, Array.getElem?_eq_getElem hi, Option.map_some, Option.isSome_none, Bool.false_eq_true, if_false, BitVec.toNat_ofNat, Nat.mod_eq_of_lt hb]
  · cases hT
theorem Shape.i64_in {S : Nat → Prop} {w : World} {x : Int} (h1 : -9223372036854775808 ≤ x) (h2 : x ≤ 9223372036854775807) : (Shape.int .i64).rep S w [.int .i64 x] x := ⟨rfl, h1, h2⟩
theorem Shape.u64_in {S : Nat → Prop} {w : World} {x : Int} (h1 : 0 ≤ x) (h2 : x ≤ 18446744073709551615) : (Shape.int .u64).rep S w [.int .u64 x] x := ⟨rfl, h1, h2⟩
theorem Shape.u32_in {S : Nat → Prop} {w : World} {x : Int} (h1 : 0 ≤ x) (h2 : x ≤ 4294967295) : (Shape.int .u32).rep S w [.int .u32 x] x := ⟨rfl, h1, h2⟩
theorem Shape.u8_in {S : Nat → Prop} {w : World} {x : Int} (h1 : 0 ≤ x) (h2 : x ≤ 255) : (Shape.int .u8).rep S w [.int .u8 x] x := ⟨rfl, h1, h2⟩
end
end Go.BX
