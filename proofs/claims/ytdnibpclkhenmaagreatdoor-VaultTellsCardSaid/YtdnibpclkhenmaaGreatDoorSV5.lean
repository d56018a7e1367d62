import Derived.Test.YtdnibpclkhenmaaGreatDoorSV1
import Derived.Test.YtdnibpclkhenmaaGreatDoorSBxB
namespace Go.Proofs.YtdnibpclkhenmaaGreatDoor
open Go.BX
structure VE where
 c : Chk
 a : Option Addr
 k : Nat
def cidV (x : CID) : Value := .agg #[.int .u64 x.version, .I x.index, .int .u64 x.epoch]
def veV (e : VE) : Value := .agg #[.int .u64 e.c.head.id.version, .I e.c.head.id.index, .int .u64 e.c.head.id.epoch, .I e.c.head.kk, .I e.c.head.nn, .I e.c.head.size, .int .u32 ((e.c.head.sum.toNat : Nat) : Int), .slice e.a e.c.data.length e.k, .bool e.c.done_]
def zVE : VE := ⟨⟨⟨⟨0, 0, 0⟩, 0, 0, 0, 0#32⟩, [], false⟩, none, 0⟩
theorem cid_eq (a b : CID) : ([(a.version == b.version), (a.index == b.index), (a.epoch == b.epoch)].all id) = decide (a = b) := by
 obtain ⟨v, i, e⟩ := a
 obtain ⟨v', i', e'⟩ := b
 rw [Bool.eq_iff_iff]
 simp only [List.all_cons, List.all_nil, id, Bool.and_true, Bool.and_eq_true, beq_iff_eq, decide_eq_true_eq, CID.mk.injEq]
theorem cid_key : KeyOk Tryz.prog 82 cidV where
 und := ⟨_, Tryz.underlying82, .inr ⟨fun _ _ => rfl, fun a b w => by
  have h1 := eqN_run (P := Tryz.prog) 9992 8 82 (cidV a) (cidV b) [(a.version == b.version), (a.index == b.index), (a.epoch == b.epoch)] (by kernel_rfl) w
  rw [cid_eq] at h1
  exact h1⟩⟩
 stays a := by simp [cidV, Instr.sameBits]
 check w b a := pureS_run (s := Instr.checkKey b 10000 82 (cidV a)) (v := ()) (by cases b <;> kernel_rfl) w
abbrev VL := List (CID × VE × Nat)
abbrev VC := List (CID × Chk × Nat)
def cont (L : VL) : VC := L.map fun x => (x.1, x.2.1.c, x.2.2)
theorem cont_find (x : CID) : ∀ (L : VL), mfind x (cont L) = (mfind x L).map (·.c)
 | [] => rfl
 | e :: l => by
  show (if e.1 = x then some e.2.1.c else mfind x (cont l)) = _
  rw [cont_find x l]
  simp only [mfind]
  split <;> rfl
theorem cont_set (x : CID) (e : VE) (c : Nat) : ∀ (L : VL), cont (mset x e c L) = mset x e.c c (cont L)
 | [] => rfl
 | y :: l => by
  show cont (if y.1 = x then (x, e, y.2.2) :: l else y :: mset x e c l) = if y.1 = x then (x, e.c, y.2.2) :: cont l else (y.1, y.2.1.c, y.2.2) :: mset x e.c c (cont l)
  split
  · rfl
  · rw [← cont_set x e c l]; rfl
theorem cont_del (x : CID) : ∀ (L : VL), cont (mdel x L) = mdel x (cont L)
 | [] => rfl
 | y :: l => by
  show cont (if y.1 = x then l else y :: mdel x l) = if y.1 = x then cont l else (y.1, y.2.1.c, y.2.2) :: mdel x (cont l)
  split
  · rfl
  · rw [← cont_del x l]; rfl
theorem cont_clk (x : CID) (c : Nat) (L : VL) : mclk x c (cont L) = mclk x c L := by
 unfold mclk
 rw [cont_find, Option.isSome_map]
theorem cont_keys (L : VL) : (cont L).map (·.1) = L.map (·.1) := by
 unfold cont
 rw [List.map_map]
 rfl
theorem cont_borns (L : VL) : (cont L).map (·.2.2) = L.map (·.2.2) := by
 unfold cont
 rw [List.map_map]
 rfl
theorem cont_ok {L : VL} {c : Nat} (h : MOk (cont L) c) : MOk L c := by
 refine ⟨?_, ?_, fun x hx => ?_⟩
 · have := h.keys; rwa [cont_keys] at this
 · have := h.borns; rwa [cont_borns] at this
 · exact h.old (x.1, x.2.1.c, x.2.2) (List.mem_map.2 ⟨x, hx, rfl⟩)
theorem cont_some {x : CID} {L : VL} {c : Chk} (h : mfind x (cont L) = some c) : ∃ a k, mfind x L = some ⟨c, a, k⟩ := by
 rw [cont_find] at h
 cases hm : mfind x L with
 | none => rw [hm] at h; cases h
 | some e => rw [hm] at h; obtain ⟨c', a, k⟩ := e; cases h; exact ⟨a, k, rfl⟩
theorem cont_none {x : CID} {L : VL} (h : mfind x (cont L) = none) : mfind x L = none := by
 rw [cont_find] at h
 cases hm : mfind x L with
 | none => rfl
 | some e => rw [hm] at h; cases h
def Fall (L : VL) : Fact where
 p S w := ∀ x ∈ L, SB.rep S w [.slice x.2.1.a x.2.1.c.data.length x.2.1.k] x.2.1.c.data
 step h hs := fun x hx => SB.step (h x hx) hs
theorem Fall.at {L : VL} {S : Nat → Prop} {w : World} (h : (Fall L).p S w) {x : CID} {c : Chk} {a : Option Addr} {k : Nat} (hx : mfind x L = some ⟨c, a, k⟩) : (Rp SB [.slice a c.data.length k] c.data).p S w := by
 obtain ⟨e, he, -, d⟩ := mfind_mem hx
 have b := h e he
 rw [d] at b
 exact b
theorem Fall.nil {S : Nat → Prop} {w : World} : (Fall []).p S w := fun x hx => by cases hx
theorem mset_mem {α β : Type} [DecidableEq α] {x : α} {v : β} {c : Nat} : ∀ {L : List (α × β × Nat)} {e : α × β × Nat}, e ∈ mset x v c L → e ∈ L ∨ e.2.1 = v
 | [], e, h => .inr (by obtain rfl := List.mem_singleton.1 h; rfl)
 | y :: l, e, h => by
  simp only [mset] at h
  split at h
  · rcases List.mem_cons.1 h with rfl | h
    · exact .inr rfl
    · exact .inl (List.mem_cons_of_mem _ h)
  · rcases List.mem_cons.1 h with rfl | h
    · exact .inl (List.mem_cons_self ..)
    · exact (mset_mem h).imp (List.mem_cons_of_mem _) id
theorem Fall.set {L : VL} {S : Nat → Prop} {w : World} (h : (Fall L).p S w) {x : CID} {e : VE} {c : Nat} (he : SB.rep S w [.slice e.a e.c.data.length e.k] e.c.data) : (Fall (mset x e c L)).p S w := fun y hy => by
 rcases mset_mem hy with hy | hy
 · exact h y hy
 · rw [hy]; exact he
theorem Fall.del {L : VL} {S : Nat → Prop} {w : World} (h : (Fall L).p S w) (x : CID) : (Fall (mdel x L)).p S w := fun y hy => h y ((mdel_sub x L).subset hy)
inductive Deed where
 | prep (c : Chk)
 | settle (id : CID)
 | drop (id : CID)
 | turn (id : CID) (bit : Nat)
def hdr0 (id : CID) : Hdr := ⟨id, 0, 0, 0, 0#32⟩
theorem hdr0_ok {id : CID} (h : CidOk id) : HdrOk (hdr0 id) := by
 refine ⟨h, ?_, ?_, ?_⟩ <;> show (-9223372036854775808 : Int) ≤ 0 ∧ (0 : Int) ≤ 9223372036854775807 <;> decide
def chkE (c : Chk) : List (BitVec 8) := hdrE c.head ++ (bytesE c.data ++ flagE c.done_)
def encD : Deed → List (BitVec 8)
 | .prep c => num 0 ++ chkE c
 | .settle id => num 1 ++ hdrE (hdr0 id)
 | .drop id => num 2 ++ hdrE (hdr0 id)
 | .turn id bit => num 3 ++ (hdrE (hdr0 id) ++ num bit)
def turnB (x : List (BitVec 8)) (bit : Nat) : List (BitVec 8) := x.set (bit / 8) (x.getD (bit / 8) 0#8 ^^^ (1#8 <<< (bit % 8)))
theorem turnB_len (x : List (BitVec 8)) (bit : Nat) : (turnB x bit).length = x.length := List.length_set
abbrev VS := VC × Nat
def stepD (s : VS) : Deed → VS
 | .prep c => (mset c.head.id c s.2 s.1, mclk c.head.id s.2 s.1)
 | .settle id => match mfind id s.1 with
  | some c => (mset id { c with done_ := true } s.2 s.1, mclk id s.2 s.1)
  | none => s
 | .drop id => (mdel id s.1, s.2)
 | .turn id bit => match mfind id s.1 with
  | some c => (mset id { c with data := turnB c.data bit } s.2 s.1, mclk id s.2 s.1)
  | none => s
def ChkOk (c : Chk) : Prop := HdrOk c.head ∧ c.data.length ≤ 65536
def okD (s : VS) : Deed → Prop
 | .prep c => mfind c.head.id s.1 = none ∧ ChkOk c
 | .settle id => (∃ c, mfind id s.1 = some c) ∧ CidOk id
 | .drop id => (∃ c, mfind id s.1 = some c) ∧ CidOk id
 | .turn id bit => (∃ c, mfind id s.1 = some c ∧ bit / 8 < c.data.length ∧ c.data.length ≤ 65536) ∧ CidOk id
def usedL (L : VC) : Nat := (L.map fun x => x.2.1.data.length).sum
theorem used_find {x : CID} {c : Chk} : ∀ {L : VC}, mfind x L = some c → usedL (mdel x L) + c.data.length = usedL L
 | [], h => by cases h
 | e :: l, h => by
  simp only [mfind] at h
  simp only [mdel]
  split at h
  · rename_i he
    rw [if_pos he]
    injection h with h
    show usedL l + _ = (e.2.1.data.length :: l.map fun x => x.2.1.data.length).sum
    rw [List.sum_cons, h, Nat.add_comm]; rfl
  · rename_i he
    rw [if_neg he]
    have := used_find h
    show (e.2.1.data.length :: (mdel x l).map fun x => x.2.1.data.length).sum + _ = (e.2.1.data.length :: l.map fun x => x.2.1.data.length).sum
    rw [List.sum_cons, List.sum_cons]
    unfold usedL at this
    omega
theorem used_set {x : CID} {v : Chk} {n : Nat} : ∀ {L : VC}, usedL (mset x v n L) + ((mfind x L).map fun c => c.data.length).getD 0 = usedL L + v.data.length
 | [] => by simp [mset, usedL, mfind]
 | e :: l => by
  have ih := used_set (x := x) (v := v) (n := n) (L := l)
  simp only [mset, mfind]
  unfold usedL at ih ⊢
  split
  · simp only [List.map_cons, List.sum_cons, Option.map_some, Option.getD_some]; omega
  · simp only [List.map_cons, List.sum_cons]; omega
theorem used_new {x : CID} {v : Chk} {n : Nat} {L : VC} (h : mfind x L = none) : usedL (mset x v n L) = usedL L + v.data.length := by
 have := used_set (x := x) (v := v) (n := n) (L := L)
 rw [h] at this
 simpa using this
theorem used_old {x : CID} {v c : Chk} {n : Nat} {L : VC} (h : mfind x L = some c) (hl : v.data.length = c.data.length) : usedL (mset x v n L) = usedL L := by
 have := used_set (x := x) (v := v) (n := n) (L := L)
 rw [h] at this
 simp only [Option.map_some, Option.getD_some] at this
 omega
theorem step_ok {s : VS} (h : MOk s.1 s.2) (d : Deed) : MOk (stepD s d).1 (stepD s d).2 := by
 cases d with
 | prep c => exact h.set _ _
 | settle id =>
  simp only [stepD]
  cases mfind id s.1 with
  | none => exact h
  | some c => exact h.set _ _
 | drop id => exact h.del _
 | turn id bit =>
  simp only [stepD]
  cases mfind id s.1 with
  | none => exact h
  | some c => exact h.set _ _
def KeyIs (s : VC) : Prop := ∀ x ∈ s, x.2.1.head.id = x.1
theorem mset_mem2 {α β : Type} [DecidableEq α] {x : α} {v : β} {c : Nat} : ∀ {L : List (α × β × Nat)} {e : α × β × Nat}, e ∈ mset x v c L → e ∈ L ∨ (e.1 = x ∧ e.2.1 = v)
 | [], e, h => .inr (by obtain rfl := List.mem_singleton.1 h; exact ⟨rfl, rfl⟩)
 | y :: l, e, h => by
  simp only [mset] at h
  split at h
  · rcases List.mem_cons.1 h with rfl | h
    · exact .inr ⟨rfl, rfl⟩
    · exact .inl (List.mem_cons_of_mem _ h)
  · rcases List.mem_cons.1 h with rfl | h
    · exact .inl (List.mem_cons_self ..)
    · exact (mset_mem2 h).imp (List.mem_cons_of_mem _) id
theorem KeyIs.find {s : VC} (h : KeyIs s) {x : CID} {c : Chk} (hx : mfind x s = some c) : c.head.id = x := by
 obtain ⟨e, he, a, b⟩ := mfind_mem hx
 rw [← a, ← b]
 exact h e he
theorem KeyIs.set {s : VC} (h : KeyIs s) {x : CID} {v : Chk} (hv : v.head.id = x) (n : Nat) : KeyIs (mset x v n s) := fun e he => by
 rcases mset_mem2 he with he | ⟨h1, h2⟩
 · exact h e he
 · rw [h1, h2]; exact hv
theorem KeyIs.step {s : VS} (h : KeyIs s.1) (d : Deed) : KeyIs (stepD s d).1 := by
 cases d with
 | prep c => exact h.set rfl _
 | settle id =>
  simp only [stepD]
  cases hm : mfind id s.1 with
  | none => exact h
  | some c => exact h.set (v := { c with done_ := true }) (show c.head.id = id from h.find hm) _
 | drop id => exact fun e he => h e ((mdel_sub id s.1).subset he)
 | turn id bit =>
  simp only [stepD]
  cases hm : mfind id s.1 with
  | none => exact h
  | some c => exact h.set (v := { c with data := turnB c.data bit }) (show c.head.id = id from h.find hm) _
def runD (ds : List Deed) : VS := ds.foldl stepD ([], 0)
theorem runD_snoc (ds : List Deed) (d : Deed) : runD (ds ++ [d]) = stepD (runD ds) d := by unfold runD; rw [List.foldl_append]; rfl
def allD (ds : List Deed) : Prop := ∀ i d, ds[i]? = some d → okD (runD (ds.take i)) d
theorem allD_nil : allD [] := fun i d h => by simp at h
theorem allD_snoc {ds : List Deed} {d : Deed} (h : allD ds) (hd : okD (runD ds) d) : allD (ds ++ [d]) := fun i e he => by
 rcases Nat.lt_trichotomy i ds.length with hi | rfl | hi
 · rw [List.getElem?_append_left hi] at he
   rw [List.take_append_of_le_length (Nat.le_of_lt hi)]
   exact h i e he
 · rw [List.getElem?_append_right (Nat.le_refl _), Nat.sub_self] at he
   obtain rfl : d = e := by simpa using he
   rw [List.take_append_of_le_length (Nat.le_refl _), List.take_length]
   exact hd
 · rw [List.getElem?_eq_none (by simp; omega)] at he
   cases he
theorem runD_ok (ds : List Deed) : MOk (runD ds).1 (runD ds).2 ∧ KeyIs (runD ds).1 := by
 have : ∀ (l : List Deed) (s : VS), MOk s.1 s.2 ∧ KeyIs s.1 → MOk (l.foldl stepD s).1 (l.foldl stepD s).2 ∧ KeyIs (l.foldl stepD s).1 := by
  intro l
  induction l with
  | nil => exact fun s h => h
  | cons d l ih => exact fun s h => ih _ ⟨step_ok h.1 d, h.2.step d⟩
 exact this ds _ ⟨MOk.nil, fun x hx => by cases hx⟩
theorem runD_take {ds : List Deed} {i : Nat} {d : Deed} (h : ds[i]? = some d) : runD (ds.take (i + 1)) = stepD (runD (ds.take i)) d := by
 obtain ⟨hi, rfl⟩ := List.getElem?_eq_some_iff.1 h
 rw [← runD_snoc, List.take_succ_eq_append_getElem hi]
theorem encD_len {s : VS} {d : Deed} (h : okD s d) : (encD d).length ≤ 70000 := by
 have a : ∀ n : Nat, n ≤ 18446744073709551615 → (num n).length ≤ 10 := fun n hn => num_ten hn
 have hz : ∀ id, CidOk id → (hdrE (hdr0 id)).length ≤ 70 := fun id h => hdrE_len (hdr0_ok h)
 cases d with
 | prep c =>
  have b := hdrE_len h.2.1
  have f := a c.data.length (by have := h.2.2; omega)
  have g := h.2.2
  have e := a 0 (by decide)
  show (num 0 ++ (hdrE c.head ++ ((num c.data.length ++ c.data) ++ flagE c.done_))).length ≤ _
  simp only [List.length_append, flagE_len]
  omega
 | settle id =>
  have b := hz id h.2
  have e := a 1 (by decide)
  show (num 1 ++ _).length ≤ _
  rw [List.length_append]; omega
 | drop id =>
  have b := hz id h.2
  have e := a 2 (by decide)
  show (num 2 ++ _).length ≤ _
  rw [List.length_append]; omega
 | turn id bit =>
  have b := hz id h.2
  have e := a 3 (by decide)
  obtain ⟨⟨c, -, _, _⟩, _⟩ := h
  have i := a bit (by omega)
  show (num 3 ++ (_ ++ num bit)).length ≤ _
  rw [List.length_append, List.length_append]; omega
def SmallD (s : VS) : Prop := ∀ x ∈ s.1, ChkOk x.2.1
theorem SmallD.find {s : VS} (h : SmallD s) {x : CID} {c : Chk} (hx : mfind x s.1 = some c) : ChkOk c := by
 obtain ⟨e, he, -, a⟩ := mfind_mem hx
 rw [← a]
 exact h e he
theorem SmallD.step {s : VS} (h : SmallD s) {d : Deed} (hd : okD s d) : SmallD (stepD s d) := by
 have hset : ∀ (x : CID) (v : Chk) (n : Nat), ChkOk v → ∀ e ∈ mset x v n s.1, ChkOk e.2.1 := fun x v n hv e he => by
  rcases mset_mem he with he | he
  · exact h e he
  · rw [he]; exact hv
 cases d with
 | prep c => exact hset _ _ _ hd.2
 | settle id =>
  obtain ⟨⟨c, hc⟩, -⟩ := hd
  show SmallD (match mfind id s.1 with | some c => _ | none => _)
  rw [hc]
  exact hset _ _ _ (show ChkOk c from h.find hc)
 | drop id => exact fun e he => h e ((mdel_sub id s.1).subset he)
 | turn id bit =>
  obtain ⟨⟨c, hc, -⟩, -⟩ := hd
  show SmallD (match mfind id s.1 with | some c => _ | none => _)
  rw [hc]
  exact hset _ _ _ ⟨(h.find hc).1, by show (turnB c.data bit).length ≤ _; rw [turnB_len]; exact (h.find hc).2⟩
theorem used_step {s : VS} (d : Deed) (hd : okD s d) : usedL (stepD s d).1 ≤ usedL s.1 + 65536 := by
 cases d with
 | prep c =>
  show usedL (mset c.head.id c s.2 s.1) ≤ _
  rw [used_new hd.1]
  have := hd.2.2
  omega
 | settle id =>
  obtain ⟨⟨c, hc⟩, -⟩ := hd
  show usedL (match mfind id s.1 with | some c => _ | none => _ : VS).1 ≤ _
  rw [hc]
  show usedL (mset id { c with done_ := true } s.2 s.1) ≤ _
  rw [used_old (v := { c with done_ := true }) hc rfl]
  omega
 | drop id =>
  obtain ⟨⟨c, hc⟩, -⟩ := hd
  show usedL (mdel id s.1) ≤ _
  have := used_find hc
  omega
 | turn id bit =>
  obtain ⟨⟨c, hc, -⟩, -⟩ := hd
  show usedL (match mfind id s.1 with | some c => _ | none => _ : VS).1 ≤ _
  rw [hc]
  show usedL (mset id { c with data := turnB c.data bit } s.2 s.1) ≤ _
  rw [used_old (v := { c with data := turnB c.data bit }) hc (turnB_len _ _)]
  omega
theorem allD_run {ds : List Deed} (h : allD ds) : ∀ i, i ≤ ds.length → SmallD (runD (ds.take i)) ∧ usedL (runD (ds.take i)).1 ≤ 65536 * i
 | 0, _ => ⟨fun x hx => (by rw [List.take_zero] at hx; cases hx), (by rw [List.take_zero]; exact Nat.le_refl _)⟩
 | i + 1, hi => by
  obtain ⟨h1, h2⟩ := allD_run h i (by omega)
  have hd := h i ds[i] (List.getElem?_eq_getElem (by omega))
  have e : runD (ds.take (i + 1)) = stepD (runD (ds.take i)) ds[i] := runD_take (List.getElem?_eq_getElem (by omega))
  rw [e]
  have := used_step ds[i] hd
  exact ⟨h1.step hd, by omega⟩
theorem allD_small {ds : List Deed} (h : allD ds) : SmallD (runD ds) ∧ usedL (runD ds).1 ≤ 65536 * ds.length := by
 have := allD_run h ds.length (Nat.le_refl _)
 rwa [List.take_length] at this
theorem encs_len {ds : List Deed} (h : allD ds) : ∀ r ∈ ds.map encD, r.length ≤ 70000 := fun r hr => by
 obtain ⟨d, hd, rfl⟩ := List.mem_map.1 hr
 obtain ⟨i, hi⟩ := List.getElem?_of_mem hd
 exact encD_len (h i d hi)
end Go.Proofs.YtdnibpclkhenmaaGreatDoor
