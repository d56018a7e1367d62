import Derived.Test.YthbegjaoifghlaaRows
import Derived.Test.YthbegjaoifghlaaSBxA
namespace Go.Proofs.Ythbegjaoifghlaa
open Go.BX
theorem Try_mixed : Try.prog.follows .mixedOrders = true := by kernel_rfl
structure Conf where
 voters : List Int
 learners : List Int
def confS : Shape Conf := (Shape.pair (Shape.slice (Shape.int .i64)) (Shape.slice (Shape.int .i64))).map fun x => (x.voters, x.learners)
theorem conf_open {S : Nat → Prop} {w : World} {cs : List Value} {x : Conf} (h : confS.rep S w cs x) : ∃ a0 : Option Addr, ∃ k0 : Nat, ∃ a1 : Option Addr, ∃ k1 : Nat, cs = [.slice a0 x.voters.length k0, .slice a1 x.learners.length k1] ∧ (Shape.slice (Shape.int .i64)).rep S w [.slice a0 x.voters.length k0] x.voters ∧ (Shape.slice (Shape.int .i64)).rep S w [.slice a1 x.learners.length k1] x.learners := by
 obtain ⟨c0, d0, rfl, h0, h⟩ := h
 have h1 := h
 obtain ⟨a0, k0, e0⟩ := Shape.slice_form' h0
 obtain ⟨a1, k1, e1⟩ := Shape.slice_form' h1
 exact ⟨a0, k0, a1, k1, (by simp [e0, e1]), (e0 ▸ h0), (e1 ▸ h1)⟩
theorem conf_mk {S : Nat → Prop} {w : World} {y0 : List Int} {l0 : List Value} (h0 : (Shape.slice (Shape.int .i64)).rep S w l0 y0) {y1 : List Int} {l1 : List Value} (h1 : (Shape.slice (Shape.int .i64)).rep S w l1 y1) : confS.rep S w (l0 ++ (l1)) ⟨y0, y1⟩ := ⟨_, _, rfl, h0, h1⟩
structure CStep where
 kind : Int
 node : Int
def cstepS : Shape CStep := (Shape.pair (Shape.int .i64) (Shape.int .i64)).map fun x => (x.kind, x.node)
theorem cstep_open {S : Nat → Prop} {w : World} {cs : List Value} {x : CStep} (h : cstepS.rep S w cs x) : cs = [.int .i64 x.kind, .int .i64 x.node] ∧ ((-9223372036854775808) ≤ x.kind ∧ x.kind ≤ 9223372036854775807) ∧ ((-9223372036854775808) ≤ x.node ∧ x.node ≤ 9223372036854775807) := by
 obtain ⟨c0, d0, rfl, h0, h⟩ := h
 have h1 := h
 obtain ⟨e0, b0⟩ := h0
 obtain ⟨e1, b1⟩ := h1
 exact ⟨(by simp [e0, e1]), b0, b1⟩
theorem cstep_mk {S : Nat → Prop} {w : World} {y0 : Int} {l0 : List Value} (h0 : (Shape.int .i64).rep S w l0 y0) {y1 : Int} {l1 : List Value} (h1 : (Shape.int .i64).rep S w l1 y1) : cstepS.rep S w (l0 ++ (l1)) ⟨y0, y1⟩ := ⟨_, _, rfl, h0, h1⟩
structure Peer where
 id : Int
 next : Int
 mat : Int
 heard : Bool
def peerS : Shape Peer := (Shape.pair (Shape.int .i64) (Shape.pair (Shape.int .u64) (Shape.pair (Shape.int .u64) Shape.bool))).map fun x => (x.id, x.next, x.mat, x.heard)
theorem peer_open {S : Nat → Prop} {w : World} {cs : List Value} {x : Peer} (h : peerS.rep S w cs x) : cs = [.int .i64 x.id, .int .u64 x.next, .int .u64 x.mat, .bool x.heard] ∧ ((-9223372036854775808) ≤ x.id ∧ x.id ≤ 9223372036854775807) ∧ (0 ≤ x.next ∧ x.next ≤ 18446744073709551615) ∧ (0 ≤ x.mat ∧ x.mat ≤ 18446744073709551615) := by
 obtain ⟨c0, d0, rfl, h0, h⟩ := h
 obtain ⟨c1, d1, rfl, h1, h⟩ := h
 obtain ⟨c2, d2, rfl, h2, h⟩ := h
 have h3 := h
 obtain ⟨e0, b0⟩ := h0
 obtain ⟨e1, b1⟩ := h1
 obtain ⟨e2, b2⟩ := h2
 have e3 : d2 = [.bool x.heard] := h3
 exact ⟨(by simp [e0, e1, e2, e3]), b0, b1, b2⟩
def risesFrom (last : Int) : List Int → Bool
 | [] => true
 | x :: r => if x ≤ last ∨ x > 32 then false else risesFrom x r
def common (a b : List Int) : Nat := (a.filter (fun x => decide (x ∈ b))).length
def okConf (c : Conf) : Bool := !c.voters.isEmpty && risesFrom 0 c.voters && risesFrom 0 c.learners && decide (common c.voters c.learners = 0)
def errOf (b : Bool) : Int := if b then 0 else 120
theorem errOf_no {b : Bool} (h : b = true → False) : errOf b = 120 := by cases b <;> simp_all [errOf]
theorem errOf_yes {b : Bool} (h : b = true) : errOf b = 0 := by subst h; rfl
theorem okConf_iff {c : Conf} : okConf c = true ↔ c.voters.length ≠ 0 ∧ risesFrom 0 c.voters = true ∧ risesFrom 0 c.learners = true ∧ common c.voters c.learners = 0 := by
 simp [okConf, and_assoc]
def majB (c : Conf) (a : List Int) : Bool := decide (2 * (common c.voters a : Int) > c.voters.length)
def leastOf (c : Conf) (both : Int) : Int := let x := (c.voters.length : Int) / 2 + 1 - (c.voters.length - both); if x > 0 then x else 0
def meetsB (a b : Conf) : Bool := okConf a && okConf b && decide (leastOf a (common a.voters b.voters) + leastOf b (common a.voters b.voters) > common a.voters b.voters)
theorem risesFrom_step {last : Int} {xs : List Int} {k : Nat} (hk : k < xs.length) : risesFrom last (xs.drop k) = if xs[k] ≤ last ∨ xs[k] > 32 then false else risesFrom xs[k] (xs.drop (k + 1)) := by
 rw [List.drop_eq_getElem_cons hk]; rfl
theorem take_succ_mem {xs : List Int} {k : Nat} (hk : k < xs.length) {x : Int} : x ∈ xs.take (k + 1) ↔ x ∈ xs.take k ∨ x = xs[k] := by
 rw [List.take_succ_eq_append_getElem hk, List.mem_append, List.mem_singleton]
theorem rises_le : ∀ {xs : List Int} {l : Int}, 0 ≤ l → l ≤ 32 → risesFrom l xs = true → l + xs.length ≤ 32
 | [], l, h1, h2, _ => by simp; omega
 | x :: r, l, h1, h2, h => by
  unfold risesFrom at h
  split at h
  · cases h
  · have := rises_le (by omega) (by omega) h
    simp only [List.length_cons]; omega
theorem rises_gt : ∀ {xs : List Int} {l y : Int}, risesFrom l xs = true → y ∈ xs → l < y ∧ y ≤ 32
 | [], _, _, _, h => by cases h
 | x :: r, l, y, h, hy => by
  unfold risesFrom at h
  split at h
  · cases h
  · rcases List.mem_cons.1 hy with rfl | hy
    · omega
    · have := rises_gt h hy; omega
theorem ok_len {c : Conf} (h : okConf c = true) : c.voters.length ≤ 32 ∧ c.learners.length ≤ 32 := by
 obtain ⟨_, h1, h2, _⟩ := okConf_iff.1 h
 have := rises_le (by decide) (by decide) h1
 have := rises_le (by decide) (by decide) h2
 omega
theorem common_le (a b : List Int) : common a b ≤ a.length := List.length_filter_le _ _
theorem rises_head {x l : Int} {r : List Int} (h : risesFrom l (x :: r) = true) : l < x ∧ x ≤ 32 ∧ risesFrom x r = true := by
 unfold risesFrom at h
 split at h
 · cases h
 · exact ⟨by omega, by omega, h⟩
theorem common_cons {x : Int} {r b : List Int} : common (x :: r) b = (if x ∈ b then 1 else 0) + common r b := by
 unfold common
 by_cases h : x ∈ b <;> simp [h]; omega
theorem filter_ne {xs : List Int} {x : Int} (h : x ∉ xs) : xs.filter (fun y => y != x) = xs := List.filter_eq_self.2 fun _ hy => bne_iff_ne.2 fun e => h (e ▸ hy)
theorem common_le2 : ∀ {a : List Int} {b : List Int} {l : Int}, risesFrom l a = true → common a b ≤ b.length
 | [], b, l, _ => by simp [common]
 | x :: r, b, l, h => by
  obtain ⟨h1, h2, h3⟩ := rises_head h
  rw [common_cons]
  split
  · rename_i hx
    have h4 : common r b = common r (b.erase x) := by
     unfold common
     congr 1
     refine List.filter_congr fun y hy => ?_
     have hne : y ≠ x := fun e => by have := (rises_gt h3 hy).1; omega
     rw [decide_eq_decide]
     exact (List.mem_erase_of_ne hne).symm
    have h5 := common_le2 (b := b.erase x) h3
    have h6 := List.length_erase_of_mem hx
    have h7 := List.length_pos_of_mem hx
    omega
  · have := common_le2 (b := b) h3; omega
theorem leastOf_bd {c : Conf} {k : Int} (_h0 : 0 ≤ k) (hk : k ≤ c.voters.length) : 0 ≤ leastOf c k ∧ leastOf c k ≤ 1 + c.voters.length := by
 unfold leastOf
 simp only []
 split <;> omega
theorem errOf_ne {b : Bool} (h : ¬ errOf b = 0) : b = false := by cases b <;> simp_all [errOf]
theorem errOf_eq {b : Bool} (h : errOf b = 0) : b = true := by cases b <;> simp_all [errOf]
def ins (x : Int) : List Int → List Int
 | [] => [x]
 | y :: r => if x ≤ y then x :: y :: r else y :: ins x r
theorem ins_at {x : Int} : ∀ {xs : List Int} {l : Int} {i : Nat}, risesFrom l xs = true → i ≤ xs.length → (0 < i → ∀ y, xs[i - 1]? = some y → y < x) → (∀ y, xs[i]? = some y → x ≤ y) → xs.take i ++ x :: xs.drop i = ins x xs
 | [], _, _, _, h, _, _ => by
  have h0 := Nat.le_zero.1 h
  subst h0; rfl
 | y :: r, _, 0, _, _, _, h3 => by
  have := h3 y rfl
  simp [ins, this]
 | y :: r, l, i + 1, h, hi, h2, h3 => by
  obtain ⟨k1, k2, k3⟩ := rises_head h
  have hlt : y < x := by
   cases i with
   | zero => exact h2 (by omega) y rfl
   | succ i' =>
    have hi2 : i' < r.length := by simp only [List.length_cons] at hi; omega
    have h4 := h2 (by omega) r[i'] (by
     show (y :: r)[i' + 1]? = _
     rw [List.getElem?_cons_succ, List.getElem?_eq_getElem hi2])
    have := (rises_gt k3 (List.getElem_mem hi2)).1
    omega
  have ih := ins_at (x := x) (i := i) k3 (by simpa using hi) (fun h0 y' hy => h2 (by omega) y' (by
   show (y :: r)[i]? = _
   rw [show i = (i - 1) + 1 by omega, List.getElem?_cons_succ]; exact hy)) (fun y' hy => h3 y' (by rw [List.getElem?_cons_succ]; exact hy))
  have hn : ¬ x ≤ y := by omega
  simp only [List.take_succ_cons, List.drop_succ_cons, List.cons_append, ins, hn, if_false, ih]
def drp (x : Int) (xs : List Int) : List Int := xs.filter (fun y => y != x)
def stepOk (c : Conf) (node : Int) : Bool := okConf c && decide (1 ≤ node) && decide (node ≤ 32)
def stepOf (c : Conf) (s : CStep) : Conf × Int :=
 if stepOk c s.node = false then (⟨[], []⟩, 120)
 else if s.kind = 1 ∧ s.node ∉ c.voters ∧ s.node ∉ c.learners then (⟨c.voters, ins s.node c.learners⟩, 0)
 else if s.kind = 2 ∧ s.node ∈ c.learners then (⟨ins s.node c.voters, drp s.node c.learners⟩, 0)
 else if s.kind = 3 ∧ (s.node ∈ c.learners ∨ s.node ∈ c.voters ∧ 1 < c.voters.length) then (⟨drp s.node c.voters, drp s.node c.learners⟩, 0)
 else (⟨[], []⟩, 120)
theorem common_succ {a b : List Int} {k : Nat} (hk : k < a.length) : common (a.take (k + 1)) b = common (a.take k) b + if a[k] ∈ b then 1 else 0 := by
 unfold common
 rw [List.take_succ_eq_append_getElem hk, List.filter_append]
 by_cases h : a[k] ∈ b <;> simp [h]
end Go.Proofs.Ythbegjaoifghlaa
