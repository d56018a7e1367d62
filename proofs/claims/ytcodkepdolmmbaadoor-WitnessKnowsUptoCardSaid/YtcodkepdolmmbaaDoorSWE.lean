import Derived.Test.YtcodkepdolmmbaaDoorSWB
import Derived.Test.YtcodkepdolmmbaaDoorSBxA
namespace Go.Proofs.YtcodkepdolmmbaaDoor
open Go.BX
def hasB (l : List Prs) (k : ByteArray) : Bool := l.any fun p => decide (p.key = k)
theorem hasB_snoc (l : List Prs) (p : Prs) (k : ByteArray) : hasB (l ++ [p]) k = (hasB l k || decide (p.key = k)) := by
 unfold hasB
 rw [List.any_append]; simp
theorem hasB_take {l : List Prs} {i : Nat} (h : i < l.length) (k : ByteArray) : hasB (l.take (i + 1)) k = (hasB (l.take i) k || decide (l[i].key = k)) := by
 rw [List.take_succ_eq_append_getElem h, hasB_snoc]
theorem hasB_no {l : List Prs} {i : Nat} {k : ByteArray} (h : i < l.length) (h1 : hasB (l.take i) k = false) (h2 : l[i].key ≠ k) : hasB (l.take (i + 1)) k = false := by
 rw [hasB_take h, h1]; simp [h2]
theorem hasB_yes {l : List Prs} {i : Nat} {k : ByteArray} (h : i < l.length) (h2 : l[i].key = k) : hasB l k = true := by
 unfold hasB
 rw [List.any_eq_true]
 exact ⟨l[i], List.getElem_mem h, by simpa using h2⟩
def wo (l : List Prs) (k : ByteArray) : List Prs := l.filter fun p => decide (p.key ≠ k)
theorem wo_has (l : List Prs) (k q : ByteArray) : hasB (wo l k) q = (decide (q ≠ k) && hasB l q) := by
 rw [Bool.eq_iff_iff]
 unfold hasB wo
 simp only [List.any_eq_true, List.mem_filter, Bool.and_eq_true, decide_eq_true_eq]
 constructor
 · rintro ⟨p, ⟨h1, h2⟩, rfl⟩
   exact ⟨h2, p, h1, rfl⟩
 · rintro ⟨h1, p, h2, rfl⟩
   exact ⟨p, ⟨h2, h1⟩, rfl⟩
theorem wo_yes {l : List Prs} {k : ByteArray} {i : Nat} (h : i < l.length) (hk : l[i].key ≠ k) : wo (l.take i) k ++ [l[i]] = wo (l.take (i + 1)) k := by
 unfold wo
 rw [List.take_succ_eq_append_getElem h, List.filter_append, List.filter_cons_of_pos (by simpa using hk)]; rfl
theorem wo_no {l : List Prs} {k : ByteArray} {i : Nat} (h : i < l.length) (hk : ¬ l[i].key ≠ k) : wo (l.take i) k = wo (l.take (i + 1)) k := by
 unfold wo
 rw [List.take_succ_eq_append_getElem h, List.filter_append, List.filter_cons_of_neg (by simpa using hk), List.filter_nil, List.append_nil]
theorem wo_len (l : List Prs) (k : ByteArray) : (wo l k).length ≤ l.length := List.length_filter_le _ _
theorem wo_lenT (l : List Prs) (k : ByteArray) (i : Nat) : (wo (l.take i) k).length ≤ l.length := Nat.le_trans (wo_len _ _) (by rw [List.length_take]; omega)
theorem put_in {rs m : List Prs} {k : Nat} (h : k < m.length) {key : ByteArray} {dat : ByteArray} (hr : ∀ q, hasB rs q = (hasB (m.take k) q || (false && decide (q = key)))) : ∀ q, hasB (rs ++ [⟨key, dat⟩] ++ [m[k]]) q = (hasB (m.take (k + 1)) q || (true && decide (q = key))) := fun q => by
 rw [hasB_snoc, hasB_snoc, hr, hasB_take h]
 simp only [Bool.false_and, Bool.or_false, Bool.true_and]
 rw [show decide (key = q) = decide (q = key) from decide_eq_decide.2 eq_comm]
 cases hasB (m.take k) q <;> cases decide (q = key) <;> simp
theorem put_go {rs m : List Prs} {k : Nat} (h : k < m.length) {key : ByteArray} {pt : Bool} (hr : ∀ q, hasB rs q = (hasB (m.take k) q || (pt && decide (q = key)))) : ∀ q, hasB (rs ++ [m[k]]) q = (hasB (m.take (k + 1)) q || (pt && decide (q = key))) := fun q => by
 rw [hasB_snoc, hr, hasB_take h]
 cases hasB (m.take k) q <;> cases (pt && decide (q = key)) <;> simp
def putB (l l' : List Prs) (key : ByteArray) : Prop := ∀ q, hasB l' q = (decide (q = key) || (decide (q ≠ key) && hasB l q))
def delB (l l' : List Prs) (key : ByteArray) : Prop := ∀ q, hasB l' q = (decide (q ≠ key) && hasB l q)
theorem put_end {rs l : List Prs} {key : ByteArray} {k : Nat} (hk : (wo l key).length ≤ k) (hr : ∀ q, hasB rs q = (hasB ((wo l key).take k) q || (true && decide (q = key)))) : putB l rs key := fun q => by
 rw [hr, List.take_of_length_le hk, wo_has, Bool.true_and, Bool.or_comm]
theorem put_add {rs l : List Prs} {key dat : ByteArray} {k : Nat} (hk : (wo l key).length ≤ k) (hr : ∀ q, hasB rs q = (hasB ((wo l key).take k) q || (false && decide (q = key)))) : putB l (rs ++ [⟨key, dat⟩]) key := fun q => by
 rw [hasB_snoc, hr, List.take_of_length_le hk, wo_has, Bool.false_and, Bool.or_false, Bool.or_comm, show decide (key = q) = decide (q = key) from decide_eq_decide.2 eq_comm]
def doB (x : Wop) (l : List Prs) : Bool := if x.kind = 1 then decide (x.code = 1) else (decide (x.code = 1) && hasB l x.key) || (decide (x.code = 2) && !hasB l x.key)
def nextB (x : Wop) (l l' : List Prs) : Prop := if x.kind = 1 then putB l l' x.key else delB l l' x.key
theorem opn_not {x : Wop} (hf : x.fin ≠ 0) (hc : x.code = 1 ∨ x.code = 2) : opn x = false := by
 unfold opn
 rcases hc with hc | hc <;> simp [hf, hc]
theorem told1 {x y : Wop} {l : List Prs} (hk : x.kind = 1 ∨ x.kind = 3) (e1 : y.kind = x.kind) (e2 : y.key = x.key) (ec : y.code = 1) (h : doB y l = true) : (1 : Int) = if x.kind = 3 ∧ hasB l x.key = false then 2 else 1 := by
 unfold doB at h
 rw [e1, e2, ec] at h
 rcases hk with hk | hk
 · rw [if_neg (by omega)]
 · rw [if_neg (by omega : ¬ x.kind = 1)] at h
   rw [if_neg]
   rintro ⟨-, h2⟩
   rw [h2] at h
   simp at h
theorem told2 {x y z : Wop} {l : List Prs} (hk : x.kind = 1 ∨ x.kind = 3) (e1 : y.kind = x.kind) (e2 : y.key = x.key) (ec : y.code = 1) (h : doB y l = false) (f1 : z.kind = x.kind) (f2 : z.key = x.key) (fc : z.code = 2) :
 (2 : Int) = (if x.kind = 3 ∧ hasB l x.key = false then 2 else 1) ∧ doB z l = true := by
 unfold doB at h ⊢
 rw [e1, e2, ec] at h
 rw [f1, f2, fc]
 rcases hk with hk | hk
 · rw [if_pos hk] at h
   simp at h
 · rw [if_neg (by omega : ¬ x.kind = 1)] at h ⊢
   cases hb : hasB l x.key with
   | true => rw [hb] at h; simp at h
   | false => exact ⟨by rw [if_pos ⟨hk, rfl⟩], by simp⟩
theorem tget_some (S : Tb) (q : ByteArray) : (tget S q).isSome = S.any fun p => decide (p.1 = q) := by
 unfold tget
 rw [Option.isSome_map]
 induction S with
 | nil => rfl
 | cons p r ih =>
  rw [List.find?_cons, List.any_cons]
  cases decide (p.1 = q) with
  | true => rfl
  | false => exact ih
theorem tdel_some (S : Tb) (k q : ByteArray) : (tget (tdel S k) q).isSome = (decide (q ≠ k) && (tget S q).isSome) := by
 rw [tget_some, tget_some, Bool.eq_iff_iff]
 unfold tdel
 simp only [List.any_eq_true, List.mem_filter, Bool.and_eq_true, decide_eq_true_eq]
 constructor
 · rintro ⟨p, ⟨h1, h2⟩, rfl⟩
   exact ⟨h2, p, h1, rfl⟩
 · rintro ⟨h1, p, h2, rfl⟩
   exact ⟨p, ⟨h2, h1⟩, rfl⟩
theorem tput_some (S : Tb) (k v q : ByteArray) : (tget (tput S k v) q).isSome = (decide (q = k) || (decide (q ≠ k) && (tget S q).isSome)) := by
 rw [← tdel_some, tget_some, tget_some, Bool.eq_iff_iff]
 unfold tput
 simp only [List.any_eq_true, Bool.or_eq_true, decide_eq_true_eq, (tins_perm k v (tdel S k)).mem_iff, List.mem_cons]
 constructor
 · rintro ⟨p, rfl | h, h2⟩
   · exact .inl h2.symm
   · exact .inr ⟨p, h, h2⟩
 · rintro (rfl | ⟨p, h, h2⟩)
   · exact ⟨_, .inl rfl, rfl⟩
   · exact ⟨p, .inr h, h2⟩
theorem step_put {S : Tb} {l l' : List Prs} {k v : ByteArray} (h : ∀ q, hasB l q = (tget S q).isSome) (hn : putB l l' k) : ∀ q, hasB l' q = (tget (tput S k v) q).isSome := fun q => by rw [hn, tput_some, h]
theorem step_del {S : Tb} {l l' : List Prs} {k : ByteArray} (h : ∀ q, hasB l q = (tget S q).isSome) (hn : delB l l' k) : ∀ q, hasB l' q = (tget (tdel S k) q).isSome := fun q => by rw [hn, tdel_some, h]
def psK (keys : List ByteArray) (datas : List (List (BitVec 8))) (longer : List Int) : List (ByteArray × List (BitVec 8) × Int) := (List.range keys.length).map fun i => ((keys[i]?).getD ByteArray.empty, (datas[i]?).getD [], (longer[i]?).getD 0 % 64)
def tabK (l : List (ByteArray × List (BitVec 8) × Int)) : Tb := l.foldl (fun S p => if p.2.1 = [] then tdel S p.1 else tput S p.1 (strB p.2.1)) []
def hisK (keys : List ByteArray) (datas : List (List (BitVec 8))) (longer : List Int) (op : Int) (k : Nat) : List Wop := knH op 0 [] ((psK keys datas longer).take k)
def tbK (keys : List ByteArray) (datas : List (List (BitVec 8))) (longer : List Int) (k : Nat) : Tb := tabK ((psK keys datas longer).take k)
theorem psK_len (keys : List ByteArray) (datas : List (List (BitVec 8))) (longer : List Int) : (psK keys datas longer).length = keys.length := by simp [psK]
theorem his_len {keys : List ByteArray} {datas : List (List (BitVec 8))} {longer : List Int} {op : Int} {k : Nat} (h : k ≤ keys.length) : (hisK keys datas longer op k).length = k := by
 unfold hisK
 rw [knH_len, List.length_take, psK_len]; omega
theorem psK_at {keys : List ByteArray} {datas : List (List (BitVec 8))} {longer : List Int} {k : Nat} (h : k < keys.length) (hd : k < datas.length) (hl : k < longer.length) : (psK keys datas longer).take (k + 1) = (psK keys datas longer).take k ++ [(keys[k], datas[k], longer[k] % 64)] := by
 rw [List.take_succ_eq_append_getElem (by rw [psK_len]; exact h)]
 congr 2
 unfold psK
 rw [List.getElem_map, List.getElem_range, List.getElem?_eq_getElem h, List.getElem?_eq_getElem hd, List.getElem?_eq_getElem hl]; rfl
theorem his_step {keys : List ByteArray} {datas : List (List (BitVec 8))} {longer : List Int} {op : Int} {k : Nat} (h : k < keys.length) (hd : k < datas.length) (hl : k < longer.length) : hisK keys datas longer op (k + 1) = hisK keys datas longer op k ++ [knOp keys[k] datas[k] (longer[k] % 64) op (tbK keys datas longer k) k] := by
 unfold hisK
 rw [psK_at h hd hl, knH_snoc]
 have : ((psK keys datas longer).take k).length = k := by rw [List.length_take, psK_len]; omega
 rw [this, Nat.zero_add]; rfl
theorem tb_step {keys : List ByteArray} {datas : List (List (BitVec 8))} {longer : List Int} {k : Nat} (h : k < keys.length) (hd : k < datas.length) (hl : k < longer.length) : tbK keys datas longer (k + 1) = if datas[k] = [] then tdel (tbK keys datas longer k) keys[k] else tput (tbK keys datas longer k) keys[k] (strB datas[k]) := by
 unfold tbK tabK
 rw [psK_at h hd hl, List.foldl_append]; rfl
theorem his_right {keys : List ByteArray} {datas : List (List (BitVec 8))} {longer : List Int} {op : Int} (hk : keys.length ≤ 10) (k : Nat) : rightP (hisK keys datas longer op k) := by
 refine knH_right (by rw [List.length_take, psK_len]; omega) fun p hp => ?_
 obtain ⟨i, hi, rfl⟩ := List.mem_map.1 (List.mem_of_mem_take hp)
 show 0 ≤ _ % 64 ∧ _ % 64 ≤ 63
 omega
theorem his_sz {keys : List ByteArray} {datas : List (List (BitVec 8))} {longer : List Int} {op : Int} {k : Nat} (hK : ∀ x ∈ keys, x.size ≤ 1048576) (hD : ∀ x ∈ datas, x.length ≤ 1048576) (hd : keys.length ≤ datas.length) : szH (hisK keys datas longer op k) := fun x hx => by
 obtain ⟨j, k', d, dd, S, h1, h2, rfl⟩ := knH_mem hx
 obtain ⟨i, hi, e⟩ := List.mem_map.1 (List.mem_of_mem_take h2)
 have hi' := List.mem_range.1 hi
 rw [List.getElem?_eq_getElem hi', List.getElem?_eq_getElem (show i < datas.length by omega)] at e
 injection e with e1 e2
 injection e2 with e2 e3
 subst e1 e2
 exact ⟨hK _ (List.getElem_mem hi'), hD _ (List.getElem_mem _)⟩
theorem kn_put {k : ByteArray} {d : List (BitVec 8)} {dd op cd : Int} {S : Tb} {i : Nat} {l : List Prs} (hd : d ≠ []) (hc : cd = if (1 : Int) = 3 ∧ hasB l k = false then 2 else 1) {b : Int} (hb : b = if 10 * (i : Int) + 100 - dd > 1 then 10 * (i : Int) + 100 - dd else 1) (co : Int) (hco : co = if (i : Int) = op then 6 else cd) :
 (⟨(i : Int) + 1, 0, 1, k, d, co, [], [], b, 10 * (i : Int) + 105 + dd⟩ : Wop) = knOp k d dd op S i := by
 have hc' : cd = 1 := by rw [hc]; simp
 unfold knOp
 rw [if_neg hd, hco, hc', hb, if_neg (fun q : d = [] ∧ tget S k = none => hd q.1)]
 congr 1
 split <;> omega
theorem kn_del {k : ByteArray} {d : List (BitVec 8)} {dd op cd : Int} {S : Tb} {i : Nat} {l : List Prs} (hd : d = []) (hS : ∀ q, hasB l q = (tget S q).isSome) (hc : cd = if (3 : Int) = 3 ∧ hasB l k = false then 2 else 1) {b : Int} (hb : b = if 10 * (i : Int) + 100 - dd > 1 then 10 * (i : Int) + 100 - dd else 1) (co : Int) (hco : co = if (i : Int) = op then 6 else cd) :
 (⟨(i : Int) + 1, 0, 3, k, d, co, [], [], b, 10 * (i : Int) + 105 + dd⟩ : Wop) = knOp k d dd op S i := by
 have hc' : cd = if d = [] ∧ tget S k = none then 2 else 1 := by
  rw [hc, hS]
  cases tget S k with
  | none => simp [hd]
  | some v => simp
 unfold knOp
 rw [if_pos hd, hco, hc', hb]
 congr 1
 split <;> omega
theorem rightN_spec {S : Nat → Prop} {w : World} {hs : List Wop} {a : Option Addr} {c : Nat} (h : (Shape.slice wopS).rep S w [.slice a hs.length c] hs) {n : Nat} (hn : n = hs.length) {ao : Option Addr} {co : Nat} (ho : (Shape.slice (Shape.int .i64)).rep S w [.slice ao (li (List.range n)).length co] (li (List.range n))) (hr : rightP hs) (hsz : szH hs) :
 Calls Tryd.prog 11 #[.slice a hs.length c, .slice ao (li (List.range n)).length co] w (Ret fun v w' => Ext w w' ∧ v = .bool true) := by
 subst hn
 exact right_spec h ho hr hsz
theorem li_range_snoc (k : Nat) : li (List.range k) ++ [(k : Int)] = li (List.range (k + 1)) := by rw [List.range_succ, li_snoc]
theorem ropen_spec {S : Nat → Prop} {w : World} {x : Wop} {xs : List Value} (hx : wopS.rep S w xs x) :
 Calls Tryd.prog 19 #[.agg xs.toArray] w (Ret fun v w' => Ext w w' ∧ v = .bool (opn x)) := by
 obtain ⟨a4x, k4x, a6x, k6x, a7x, k7x, rfl, h0x, h1x, h2x, h3x, h4x, h5x, h6x, h7x, h8x, h9x⟩ := wop_open hx
 refine qS (fn := Tryd.f19) (n := 21) (σ := [(0, .agg #[.int .u64 x.client, .int .u64 x.seq, .I x.kind, .string x.key, .slice a4x x.data.length k4x, .I x.code, .slice a6x x.answer.length k6x, .slice a7x x.names.length k7x, .I x.beg, .I x.fin])]) Tryd.func19 ?_
 have H := Hp.startF (w := w) (S := S) (G := [Rp SB [.slice a4x x.data.length k4x] x.data, Rp SB [.slice a6x x.answer.length k6x] x.answer, Rp (Shape.slice Shape.str) [.slice a7x x.names.length k7x] x.names]) (.rp h4x (.rp h6x (.rp h7x .nil)))
 refine qR 1 [.c [0], .c [1]] [(0, .agg #[.int .u64 x.client, .int .u64 x.seq, .I x.kind, .string x.key, .slice a4x x.data.length k4x, .I x.code, .slice a6x x.answer.length k6x, .slice a7x x.names.length k7x, .I x.beg, .I x.fin])] ?_
 refine qG (sq 0 2) ?_
 refine qB .seq 1 (sq 1 2) #[.int .u64 x.client, .int .u64 x.seq, .I x.kind, .string x.key, .slice a4x x.data.length k4x, .I x.code, .slice a6x x.answer.length k6x, .slice a7x x.names.length k7x, .I x.beg, .I x.fin] 33 H ?_
 intro b1 w2 H
 refine qF 1 [(1, .P b1 0)] ?_
 refine qR 1 [.c [1, 0], .c [2]] [(1, .P b1 0)] ?_
 refine qG (sq 0 19) ?_
 refine qP 1 (sq 1 19) [(1, .P b1 0), (3, .P b1 9)] ?_
 refine qL .seq 4 (sq 2 19) 3 b1 9 9 (.I x.fin) (H.cells 0 rfl) ?_
 refine qP 2 (sq 4 19) [(1, .P b1 0), (6, .bool (x.fin == 0))] ?_
 refine tE (fun b_ => [(1, .P b1 0), (6, .bool b_)]) x.fin 0 (fun h3 => ?_) (fun h3 => ?_)
 ·
  refine qF 15 [(2, .bool true)] ?_
  refine qT (.bool true) Tryd.func19 ?_
  refine ⟨_, rfl, H.done, ?_⟩
  congr 1
  rw [Bool.eq_iff_iff]
  unfold opn
  simp_all
 ·
  refine qP 1 (sq 5 19) [(1, .P b1 0), (6, .bool false), (7, .P b1 5)] ?_
  refine qL .seq 8 (sq 6 19) 30 b1 5 5 (.I x.code) (H.cells 0 rfl) ?_
  refine qP 3 (sq 9 19) [(1, .P b1 0), (11, .bool (x.code == 0))] ?_
  refine tE (fun b_ => [(1, .P b1 0), (11, .bool b_)]) x.code 0 (fun h4 => ?_) (fun h4 => ?_)
  ·
   refine qF 10 [(2, .bool true)] ?_
   refine qT (.bool true) Tryd.func19 ?_
   refine ⟨_, rfl, H.done, ?_⟩
   congr 1
   rw [Bool.eq_iff_iff]
   unfold opn
   simp_all
  ·
   refine qP 1 (sq 10 19) [(1, .P b1 0), (11, .bool false), (12, .P b1 5)] ?_
   refine qL .seq 13 (sq 11 19) 30 b1 5 5 (.I x.code) (H.cells 0 rfl) ?_
   refine qP 3 (sq 14 19) [(1, .P b1 0), (16, .bool (x.code == 5))] ?_
   refine tE (fun b_ => [(1, .P b1 0), (16, .bool b_)]) x.code 5 (fun h5 => ?_) (fun h5 => ?_)
   ·
    refine qF 5 [(2, .bool true)] ?_
    refine qT (.bool true) Tryd.func19 ?_
    refine ⟨_, rfl, H.done, ?_⟩
    congr 1
    rw [Bool.eq_iff_iff]
    unfold opn
    simp_all
   ·
    refine qP 1 (sq 15 19) [(16, .bool false), (17, .P b1 5)] ?_
    refine qL .seq 18 (sq 16 19) 30 b1 5 5 (.I x.code) (H.cells 0 rfl) ?_
    refine qF 3 [(2, .bool (x.code == 6))] ?_
    refine qT (.bool (x.code == 6)) Tryd.func19 ?_
    refine ⟨_, rfl, H.done, ?_⟩
    congr 1
    rw [Bool.eq_iff_iff]
    unfold opn
    simp_all
theorem rat_spec {S : Nat → Prop} {w : World} {mb : Nat} {l : List Prs} {al : Option Addr} {cl : Nat} (hM : (Fc mb 0 [.slice al l.length cl]).p S w) (hl : (Shape.slice prsS).rep S w [.slice al l.length cl] l) {key : ByteArray} :
 Calls Tryd.prog 18 #[.P mb 0, .string key] w (Ret fun v w' => Ext w w' ∧ ∃ j : Int, v = .I j ∧ (0 ≤ j ↔ hasB l key = true)) := by
 have hlen := Shape.slice_len hl
 refine qS (fn := Tryd.f18) (n := 26) (σ := [(0, .P mb 0), (1, .string key)]) Tryd.func18 ?_
 have H := Hp.startF (w := w) (S := S) (G := [Fc mb 0 [.slice al l.length cl], Rp (Shape.slice prsS) [.slice al l.length cl] l]) (.cons hM (.rp hl .nil))
 refine qR 6 [.c [1, 0, 1, 0], .b 0, .c [2]] [(0, .P mb 0), (1, .string key), (5, .I 0)] ?_
 refine WK.loop (α := Nat) (b := cd Tryd.prog 18 [1, 0, 1, 0, 0]) (by as_aux_lemma => kernel_rfl) (fun k => [(0, .P mb 0), (1, .string key), (5, .I k)]) (fun k w' => Hp w S [] [] [] [Fc mb 0 [.slice al l.length cl], Rp (Shape.slice prsS) [.slice al l.length cl] l] w' ∧ k ≤ l.length ∧ hasB (l.take k) key = false) (fun k => l.length - k) 0 ⟨H, Nat.zero_le _, rfl⟩ (rfl) ?_
 rintro k w2 ⟨H, hinv0⟩ hback1
 refine qR 2 [.c [1, 0, 1, 0, 0, 0, 0], .c [1, 0, 1, 0, 0, 0, 1], .c [1, 0, 1, 0, 0, 1], .l [1, 0, 1, 0, 0], .b 0, .c [2]] [(0, .P mb 0), (1, .string key), (5, .I k)] ?_
 refine qG (sq 0 7) ?_
 refine qP 4 (sq 4 7) [(0, .P mb 0), (1, .string key), (5, .I k), (6, .I k), (9, .P mb 0)] ?_
 refine qL .seq 10 (sq 5 7) 38 mb 0 0 (.slice al l.length cl) (H.fc 0 rfl) ?_
 refine qF 2 [(0, .P mb 0), (1, .string key), (5, .I k), (12, .bool (decide (((k : Int) : Int) < ((l.length : Nat) : Int))))] ?_
 refine qD (((k : Int) : Int) < ((l.length : Nat) : Int)) (fun h3 => ?_) (fun h3 => ?_)
 ·
  have hk1 : k < l.length := by omega
  refine qR 4 [.c [1, 0, 1, 0, 0, 1, 0, 0, 0], .c [1, 0, 1, 0, 0, 1, 0, 0, 1], .b 1, .c [1, 0, 1, 0, 0, 2], .l [1, 0, 1, 0, 0], .b 0, .c [2]] [(0, .P mb 0), (1, .string key), (5, .I k)] ?_
  refine qG (sq 0 10) ?_
  refine qP 3 (sq 3 10) [(0, .P mb 0), (1, .string key), (5, .I k), (17, .P mb 0)] ?_
  refine qL .seq 18 (sq 4 10) 38 mb 0 0 (.slice al l.length cl) (H.fc 0 rfl) ?_
  refine qP 1 (sq 5 10) [(0, .P mb 0), (1, .string key), (5, .I k), (18, .slice al l.length cl), (19, .I k)] ?_
  have hx4 : k < l.length := by omega
  refine qX .seq 20 (sq 6 10) 38 66 (k : Int) prsS (l[k]) H 1 rfl k (by omega) (List.getElem?_eq_getElem hx4) ?_
  intro b5 o6 es7 hr8 H
  obtain ⟨rfl, hf10, hf11⟩ := prs_open hr8
  refine qP 1 (sq 7 10) [(0, .P mb 0), (1, .string key), (5, .I k), (21, .P b5 o6)] ?_
  refine qL .seq 22 (sq 8 10) 9 b5 o6 0 (.string ((l[k]).key)) (H.fc 0 rfl) ?_
  refine qF 2 [(0, .P mb 0), (1, .string key), (5, .I k), (24, .bool (((l[k]).key).toList == key.toList))] ?_
  refine qE (((l[k]).key).toList) key.toList (fun h12 => ?_) (fun h12 => ?_)
  ·
   have hxk : l[k].key = key := by simpa [str_eq] using h12
   refine qR 2 [.c [1, 0, 1, 0, 0, 1, 0, 0, 1, 0, 1], .b 1, .c [1, 0, 1, 0, 0, 2], .l [1, 0, 1, 0, 0], .b 0, .c [2]] [(4, .I k)] ?_
   refine qT (.I k) Tryd.func18 ?_
   exact ⟨_, rfl, H.done, _, rfl, fun _ => hasB_yes hk1 hxk, fun _ => by omega⟩
  ·
   have hxk : l[k].key ≠ key := by simpa [str_eq] using h12
   refine qR 2 [.c [1, 0, 1, 0, 0, 2], .l [1, 0, 1, 0, 0], .b 0, .c [2]] [(0, .P mb 0), (1, .string key), (5, .I k)] ?_
   refine qG (sq 0 3) ?_
   refine qP 1 (sq 1 3) [(0, .P mb 0), (1, .string key), (5, .I k), (13, .I k)] ?_
   refine qI .seq 14 (sq 2 3) ((k : Int) + 1) ?_
   refine qF 1 [(0, .P mb 0), (1, .string key), (5, .I ((k : Int) + 1))] ?_
   have H := H.pick [1, 2] rfl
   exact WK.back (hback1 (k + 1) _ ⟨H, by omega, hasB_no (by omega) hinv0.2 hxk⟩ (by first | omega | (simp only []; omega))) (by as_aux_lemma => kernel_rfl)
 ·
  refine qR 3 [.c [3]] [(4, .I (-1))] ?_
  refine qT (.I (-1)) Tryd.func18 ?_
  refine ⟨_, rfl, H.done, _, rfl, fun q => absurd q (by decide), fun q => ?_⟩
  have h9 := hinv0.2
  rw [List.take_of_length_le (by omega), q] at h9
  cases h9
theorem without_spec {S : Nat → Prop} {w : World} {mb : Nat} {l : List Prs} {al : Option Addr} {cl : Nat} (hM : (Fc mb 0 [.slice al l.length cl]).p S w) (hl : (Shape.slice prsS).rep S w [.slice al l.length cl] l) {key : ByteArray} (hll : l.length ≤ 1048576) :
 Calls Tryd.prog 21 #[.P mb 0, .string key] w (Ret fun v w' => Ext w w' ∧ Hp w S [] [] [⟨prsS, 66, v, wo l key⟩] [] w') := by
 have hlen := Shape.slice_len hl
 refine qS (fn := Tryd.f21) (n := 37) (σ := [(0, .P mb 0), (1, .string key)]) Tryd.func21 ?_
 have H := Hp.startF (w := w) (S := S) (G := [Fc mb 0 [.slice al l.length cl], Rp (Shape.slice prsS) [.slice al l.length cl] l]) (.cons hM (.rp hl .nil))
 refine qR 8 [.c [2, 0, 1, 0], .b 0, .c [3]] [(0, .P mb 0), (1, .string key), (5, .slice none 0 0), (6, .I 0)] ?_
 have H := H.ownNil prsS 66
 refine WK.loop (α := Nat × Option Addr × Nat) (b := cd Tryd.prog 21 [2, 0, 1, 0, 0]) (by as_aux_lemma => kernel_rfl) (fun st_ => match st_ with | (k, a9, c9) => [(0, .P mb 0), (1, .string key), (5, .slice a9 ((wo (l.take k) key).length) c9), (6, .I k)]) (fun st_ w' => match st_ with | (k, a9, c9) => Hp w S [] [] [⟨prsS, 66, .slice a9 ((wo (l.take k) key).length) c9, (wo (l.take k) key)⟩] [Fc mb 0 [.slice al l.length cl], Rp (Shape.slice prsS) [.slice al l.length cl] l] w' ∧ k ≤ l.length) (fun st_ => match st_ with | (k, a9, c9) => l.length - k) (0, none, 0) ⟨H, Nat.zero_le _⟩ (rfl) ?_
 rintro ⟨k, a9, c9⟩ w2 ⟨H, hinv0⟩ hback1
 refine qR 2 [.c [2, 0, 1, 0, 0, 0, 0], .c [2, 0, 1, 0, 0, 0, 1], .c [2, 0, 1, 0, 0, 1], .l [2, 0, 1, 0, 0], .b 0, .c [3]] [(0, .P mb 0), (1, .string key), (5, .slice a9 ((wo (l.take k) key).length) c9), (6, .I k)] ?_
 refine qG (sq 0 7) ?_
 refine qP 4 (sq 4 7) [(0, .P mb 0), (1, .string key), (5, .slice a9 ((wo (l.take k) key).length) c9), (6, .I k), (7, .I k), (10, .P mb 0)] ?_
 refine qL .seq 11 (sq 5 7) 38 mb 0 0 (.slice al l.length cl) (H.fc 0 rfl) ?_
 refine qF 2 [(0, .P mb 0), (1, .string key), (5, .slice a9 ((wo (l.take k) key).length) c9), (6, .I k), (13, .bool (decide (((k : Int) : Int) < ((l.length : Nat) : Int))))] ?_
 refine qD (((k : Int) : Int) < ((l.length : Nat) : Int)) (fun h3 => ?_) (fun h3 => ?_)
 ·
  have hk1 : k < l.length := by omega
  refine qR 4 [.c [2, 0, 1, 0, 0, 1, 0, 0, 0], .c [2, 0, 1, 0, 0, 1, 0, 0, 1], .b 1, .c [2, 0, 1, 0, 0, 2], .l [2, 0, 1, 0, 0], .b 0, .c [3]] [(0, .P mb 0), (1, .string key), (5, .slice a9 ((wo (l.take k) key).length) c9), (6, .I k)] ?_
  refine qG (sq 0 10) ?_
  refine qP 3 (sq 3 10) [(0, .P mb 0), (1, .string key), (5, .slice a9 ((wo (l.take k) key).length) c9), (6, .I k), (18, .P mb 0)] ?_
  refine qL .seq 19 (sq 4 10) 38 mb 0 0 (.slice al l.length cl) (H.fc 0 rfl) ?_
  refine qP 1 (sq 5 10) [(0, .P mb 0), (1, .string key), (5, .slice a9 ((wo (l.take k) key).length) c9), (6, .I k), (19, .slice al l.length cl), (20, .I k)] ?_
  have hx4 : k < l.length := by omega
  refine qX .seq 21 (sq 6 10) 38 66 (k : Int) prsS (l[k]) H 1 rfl k (by omega) (List.getElem?_eq_getElem hx4) ?_
  intro b5 o6 es7 hr8 H
  obtain ⟨rfl, hf10, hf11⟩ := prs_open hr8
  refine qP 1 (sq 7 10) [(0, .P mb 0), (1, .string key), (5, .slice a9 ((wo (l.take k) key).length) c9), (6, .I k), (22, .P b5 o6)] ?_
  refine qL .seq 23 (sq 8 10) 9 b5 o6 0 (.string ((l[k]).key)) (H.fc 0 rfl) ?_
  refine qF 2 [(0, .P mb 0), (1, .string key), (5, .slice a9 ((wo (l.take k) key).length) c9), (6, .I k), (25, .bool (!(((l[k]).key).toList == key.toList)))] ?_
  refine qC (!(((l[k]).key).toList == key.toList)) (fun h12 => ?_) (fun h12 => ?_)
  ·
   replace h12 : (((l[k]).key).toList == key.toList) = false := by revert h12; cases (((l[k]).key).toList == key.toList) <;> simp
   replace h12 := ne_of_beq_false h12
   have hxk : l[k].key ≠ key := by simpa [str_eq] using h12
   refine qG (sq 0 11) ?_
   refine qP 4 (sq 4 11) [(0, .P mb 0), (1, .string key), (5, .slice a9 ((wo (l.take k) key).length) c9), (6, .I k), (26, .slice a9 ((wo (l.take k) key).length) c9), (29, .P mb 0)] ?_
   refine qL .seq 30 (sq 5 11) 38 mb 0 0 (.slice al l.length cl) (H.fc 1 rfl) ?_
   refine qP 1 (sq 6 11) [(0, .P mb 0), (1, .string key), (5, .slice a9 ((wo (l.take k) key).length) c9), (6, .I k), (26, .slice a9 ((wo (l.take k) key).length) c9), (30, .slice al l.length cl), (31, .I k)] ?_
   have hx13 : k < l.length := by omega
   refine qX .seq 32 (sq 7 11) 38 66 (k : Int) prsS (l[k]) H 2 rfl k (by omega) (List.getElem?_eq_getElem hx13) ?_
   intro b14 o15 es16 hr17 H
   obtain ⟨rfl, hf19, hf20⟩ := prs_open hr17
   refine qL .seq 33 (sq 8 11) 66 b14 o15 0 (.agg #[.string ((l[k]).key), .string ((l[k]).data)]) (H.fc 0 rfl) ?_
   refine RW.new (κ := .seq) (d := some 34) (r := (sq 9 11)) (o := .cells #[.string ((l[k]).key), .string ((l[k]).data)] 66 (0, 0)) (v := fun b => .slice (some ⟨b, 0, none⟩) 1 1) (fun b => by as_aux_lemma => kernel_rfl) (nofun) H ?_
   intro b21 w22 H
   have H := H.freeze 0 rfl prsS ([(l[k])] : List Prs) 1 (by simp [maxLen]) (by first | exact Nat.le_refl _ | simp) (EsP.cons (c := [.string ((l[k]).key), .string ((l[k]).data)]) (prs_mk ⟨rfl, by first | assumption | (simp [maxLen]; done) | decide⟩ ⟨rfl, by first | assumption | (simp [maxLen]; done) | decide⟩) EsP.nil)
   have H : Hp w S [] [] [⟨prsS, 66, .slice a9 ((wo (l.take k) key).length) c9, (wo (l.take k) key)⟩] [Rp (Shape.slice prsS) [.slice (some ⟨b21, 0, none⟩) 1 1] ([(l[k])] : List Prs), Fc b14 o15 [.string ((l[k]).key), .string ((l[k]).data)], Fc b5 o6 [.string ((l[k]).key), .string ((l[k]).data)], Fc mb 0 [.slice al l.length cl], Rp (Shape.slice prsS) [.slice al l.length cl] l] _ := H
   refine RW.appendW (d := some 35) (r := (sq 10 11)) (T := 38) (ty := 38) (e := 66) (m := 2) (by_ := 32) (v := .slice a9 ((wo (l.take k) key).length) c9) (a2 := (some ⟨b21, 0, none⟩)) (l2 := 1) (c2 := 1) (zs := (wo (l.take (k + 1)) key)) (by as_aux_lemma => kernel_rfl) (by as_aux_lemma => kernel_rfl) rfl H 0 rfl 0 rfl (wo_yes hk1 hxk) (by have := wo_lenT l key (k + 1); omega) ?_
   intro a23 c24 w26 H hc25
   have H : Hp w S [] [] [⟨prsS, 66, .slice a23 ((wo (l.take (k + 1)) key).length) c24, (wo (l.take (k + 1)) key)⟩] [Rp (Shape.slice prsS) [.slice (some ⟨b21, 0, none⟩) 1 1] ([(l[k])] : List Prs), Fc b14 o15 [.string ((l[k]).key), .string ((l[k]).data)], Fc b5 o6 [.string ((l[k]).key), .string ((l[k]).data)], Fc mb 0 [.slice al l.length cl], Rp (Shape.slice prsS) [.slice al l.length cl] l] _ := H
   refine qF 1 [(0, .P mb 0), (1, .string key), (5, .slice a23 ((wo (l.take (k + 1)) key).length) c24), (6, .I k)] ?_
   refine qR 1 [.c [2, 0, 1, 0, 0, 2], .l [2, 0, 1, 0, 0], .b 0, .c [3]] [(0, .P mb 0), (1, .string key), (5, .slice a23 ((wo (l.take (k + 1)) key).length) c24), (6, .I k)] ?_
   refine qG (sq 0 3) ?_
   refine qP 1 (sq 1 3) [(0, .P mb 0), (1, .string key), (5, .slice a23 ((wo (l.take (k + 1)) key).length) c24), (6, .I k), (14, .I k)] ?_
   refine qI .seq 15 (sq 2 3) ((k : Int) + 1) ?_
   refine qF 1 [(0, .P mb 0), (1, .string key), (5, .slice a23 ((wo (l.take (k + 1)) key).length) c24), (6, .I ((k : Int) + 1))] ?_
   have H := H.pick [3, 4] rfl
   exact WK.back (hback1 (k + 1, a23, c24) _ ⟨H, by omega⟩ (by first | omega | (simp only []; omega))) (by as_aux_lemma => kernel_rfl)
  ·
   replace h12 : (((l[k]).key).toList == key.toList) = true := by revert h12; cases (((l[k]).key).toList == key.toList) <;> simp
   replace h12 := eq_of_beq h12
   have hxk : ¬ l[k].key ≠ key := by simpa [str_eq] using h12
   refine qR 2 [.c [2, 0, 1, 0, 0, 2], .l [2, 0, 1, 0, 0], .b 0, .c [3]] [(0, .P mb 0), (1, .string key), (5, .slice a9 ((wo (l.take k) key).length) c9), (6, .I k)] ?_
   refine qG (sq 0 3) ?_
   refine qP 1 (sq 1 3) [(0, .P mb 0), (1, .string key), (5, .slice a9 ((wo (l.take k) key).length) c9), (6, .I k), (14, .I k)] ?_
   refine qI .seq 15 (sq 2 3) ((k : Int) + 1) ?_
   refine qF 1 [(0, .P mb 0), (1, .string key), (5, .slice a9 ((wo (l.take k) key).length) c9), (6, .I ((k : Int) + 1))] ?_
   rw [wo_no hk1 hxk] at H ⊢
   have H := H.pick [1, 2] rfl
   have H := H.drop (M' := []) (W' := [⟨prsS, 66, .slice a9 ((wo (l.take (k + 1)) key).length) c9, (wo (l.take (k + 1)) key)⟩]) (by repeat (first | exact List.Sublist.refl _ | apply List.Sublist.cons_cons | apply List.Sublist.cons)) (by repeat (first | exact List.Sublist.refl _ | apply List.Sublist.cons_cons | apply List.Sublist.cons))
   exact WK.back (hback1 (k + 1, a9, c9) _ ⟨H, by omega⟩ (by first | omega | (simp only []; omega))) (by as_aux_lemma => kernel_rfl)
 ·
  rw [List.take_of_length_le (show l.length ≤ k by omega)] at H ⊢
  refine qR 3 [.c [4]] [(4, .slice a9 ((wo (l) key).length) c9)] ?_
  refine qT (.slice a9 ((wo (l) key).length) c9) Tryd.func21 ?_
  exact ⟨_, rfl, H.done, H.pick [] rfl⟩
set_option maxHeartbeats 4000000 in
theorem rput_spec {S : Nat → Prop} {w : World} {mb : Nat} {l : List Prs} {al : Option Addr} {cl : Nat} (hM : (Fc mb 0 [.slice al l.length cl]).p S w) (hl : (Shape.slice prsS).rep S w [.slice al l.length cl] l) {key dat : ByteArray} (hks : key.size ≤ maxLen) (hds : dat.size ≤ maxLen) (hll : l.length ≤ 1048576) :
 Calls Tryd.prog 20 #[.P mb 0, .string key, .string dat] w (Ret fun v w' => Ext w w' ∧ ∃ (nb : Nat) (a' : Option Addr) (c' : Nat) (l' : List Prs), v = .P nb 0 ∧ l'.length ≤ l.length + 1 ∧ putB l l' key ∧ Hp w S [] [] [] [Fc nb 0 [.slice a' l'.length c'], Rp (Shape.slice prsS) [.slice a' l'.length c'] l'] w') := by
 have hlen := Shape.slice_len hl
 have hwl := wo_len l key
 refine qS (fn := Tryd.f20) (n := 55) (σ := [(0, .P mb 0), (1, .string key), (2, .string dat)]) Tryd.func20 ?_
 have H := Hp.startF (w := w) (S := S) (G := [Fc mb 0 [.slice al l.length cl], Rp (Shape.slice prsS) [.slice al l.length cl] l]) (.cons hM (.rp hl .nil))
 refine qR 7 [.c [3, 0], .c [4]] [(0, .P mb 0), (1, .string key), (2, .string dat), (7, .slice none 0 0), (8, .bool false)] ?_
 refine qG (sq 0 4) ?_
 refine qP 2 (sq 2 4) [(1, .string key), (2, .string dat), (7, .slice none 0 0), (8, .bool false), (11, .P mb 0), (12, .string key)] ?_
 refine qK .seq (some 13) (sq 3 4) 21 #[.P mb 0, .string key] (without_spec (H.fact 0 rfl) (H.rp 1 rfl) (key := key) (by omega)) ?_
 rintro v2 w1 - H'
 have H := H.back (M1 := []) (W1 := []) H'
 obtain ⟨a3, c4, rfl, hc5, hm6⟩ := H.ownForm 0 rfl
 have H : Hp w S [] [] [⟨prsS, 66, .slice a3 (wo l key).length c4, wo l key⟩] [Fc mb 0 [.slice al l.length cl], Rp (Shape.slice prsS) [.slice al l.length cl] l] _ := H
 refine qF 1 [(1, .string key), (2, .string dat), (7, .slice none 0 0), (8, .bool false), (9, .slice a3 (wo l key).length c4)] ?_
 refine qR 4 [.c [4, 0, 1, 0], .b 0, .c [5]] [(1, .string key), (2, .string dat), (7, .slice none 0 0), (8, .bool false), (9, .slice a3 (wo l key).length c4), (10, .I 0)] ?_
 have H : Hp w S [] [] [] [Rp (Shape.slice prsS) [.slice a3 (wo l key).length c4] (wo l key), Fc mb 0 [.slice al l.length cl], Rp (Shape.slice prsS) [.slice al l.length cl] l] _ := H.freezeW 0 rfl
 have H := H.ownNil prsS 66
 refine WK.loop (α := Nat × Bool × List Prs × Option Addr × Nat) (b := cd Tryd.prog 20 [4, 0, 1, 0, 0]) (by as_aux_lemma => kernel_rfl) (fun st_ => match st_ with | (k, pt, rs, a9, c9) => [(1, .string key), (2, .string dat), (7, .slice a9 rs.length c9), (8, .bool pt), (9, .slice a3 (wo l key).length c4), (10, .I k)]) (fun st_ w' => match st_ with | (k, pt, rs, a9, c9) => Hp w S [] [] [⟨prsS, 66, .slice a9 rs.length c9, rs⟩] [Rp (Shape.slice prsS) [.slice a3 (wo l key).length c4] (wo l key), Fc mb 0 [.slice al l.length cl], Rp (Shape.slice prsS) [.slice al l.length cl] l] w' ∧ k ≤ (wo l key).length ∧ rs.length ≤ k + pt.toNat ∧ ∀ q, hasB rs q = (hasB ((wo l key).take k) q || (pt && decide (q = key)))) (fun st_ => match st_ with | (k, pt, rs, a9, c9) => (wo l key).length - k) (0, false, ([] : List Prs), none, 0) ⟨H, Nat.zero_le _, Nat.zero_le _, fun q => rfl⟩ (rfl) ?_
 rintro ⟨k, pt, rs, a9, c9⟩ w8 ⟨H, hinv0⟩ hback7
 have hpt : pt.toNat ≤ 1 := Bool.toNat_le pt
 refine qR 3 [.c [4, 0, 1, 0, 0, 0, 1], .c [4, 0, 1, 0, 0, 1], .l [4, 0, 1, 0, 0], .b 0, .c [5]] [(1, .string key), (2, .string dat), (7, .slice a9 rs.length c9), (8, .bool pt), (9, .slice a3 (wo l key).length c4), (10, .I k), (17, .bool (decide (((k : Int) : Int) < (((wo l key).length : Nat) : Int))))] ?_
 refine qD (((k : Int) : Int) < (((wo l key).length : Nat) : Int)) (fun h9 => ?_) (fun h9 => ?_)
 ·
  have hk1 : k < (wo l key).length := by omega
  refine qR 5 [.c [4, 0, 1, 0, 0, 1, 0, 0, 0, 0], .c [4, 0, 1, 0, 0, 1, 0, 0, 0, 1], .c [4, 0, 1, 0, 0, 1, 0, 0, 1], .b 1, .c [4, 0, 1, 0, 0, 2], .l [4, 0, 1, 0, 0], .b 0, .c [5]] [(1, .string key), (2, .string dat), (7, .slice a9 rs.length c9), (8, .bool pt), (9, .slice a3 (wo l key).length c4), (10, .I k)] ?_
  refine qG (sq 0 11) ?_
  refine qP 3 (sq 3 11) [(1, .string key), (2, .string dat), (7, .slice a9 rs.length c9), (8, .bool pt), (9, .slice a3 (wo l key).length c4), (10, .I k), (22, .bool (!pt))] ?_
  refine RW.test (fun b_ => [(1, .string key), (2, .string dat), (7, .slice a9 rs.length c9), (8, .bool pt), (9, .slice a3 (wo l key).length c4), (10, .I k), (22, .bool b_)]) (!pt) (fun h10 => ?_) (fun h10 => ?_)
  ·
   replace h10 : (pt) = false := by revert h10; cases (pt) <;> simp
   have hp : pt = false := by simpa using h10
   refine qP 2 (sq 5 11) [(1, .string key), (2, .string dat), (7, .slice a9 rs.length c9), (8, .bool pt), (9, .slice a3 (wo l key).length c4), (10, .I k), (22, .bool true), (23, .slice a3 (wo l key).length c4), (24, .I k)] ?_
   have hx11 : k < (wo l key).length := by omega
   refine qX .seq 25 (sq 6 11) 38 66 (k : Int) prsS ((wo l key)[k]) H 0 rfl k (by omega) (List.getElem?_eq_getElem hx11) ?_
   intro b12 o13 es14 hr15 H
   obtain ⟨rfl, hf17, hf18⟩ := prs_open hr15
   refine qP 1 (sq 7 11) [(1, .string key), (2, .string dat), (7, .slice a9 rs.length c9), (8, .bool pt), (9, .slice a3 (wo l key).length c4), (10, .I k), (22, .bool true), (26, .P b12 o13)] ?_
   refine qL .seq 27 (sq 8 11) 9 b12 o13 0 (.string (((wo l key)[k]).key)) (H.fc 0 rfl) ?_
   refine qF 3 [(1, .string key), (2, .string dat), (7, .slice a9 rs.length c9), (8, .bool pt), (9, .slice a3 (wo l key).length c4), (10, .I k), (30, .bool (!(Go.Op.bytesLess (((wo l key)[k]).key).toList key.toList || (((wo l key)[k]).key).toList == key.toList)))] ?_
   refine qC (!(Go.Op.bytesLess (((wo l key)[k]).key).toList key.toList || (((wo l key)[k]).key).toList == key.toList)) (fun h19 => ?_) (fun h19 => ?_)
   ·
    refine qR 1 [.c [4, 0, 1, 0, 0, 1, 0, 0, 0, 1, 0, 0], .c [4, 0, 1, 0, 0, 1, 0, 0, 0, 1, 0, 1], .c [4, 0, 1, 0, 0, 1, 0, 0, 1], .b 1, .c [4, 0, 1, 0, 0, 2], .l [4, 0, 1, 0, 0], .b 0, .c [5]] [(1, .string key), (2, .string dat), (7, .slice a9 rs.length c9), (9, .slice a3 (wo l key).length c4), (10, .I k)] ?_
    refine qG (sq 0 7) ?_
    refine qP 4 (sq 4 7) [(1, .string key), (2, .string dat), (7, .slice a9 rs.length c9), (9, .slice a3 (wo l key).length c4), (10, .I k), (31, .slice a9 rs.length c9), (34, .agg #[.string key, .string dat])] ?_
    refine RW.new (κ := .seq) (d := some 35) (r := (sq 5 7)) (o := .cells #[.string key, .string dat] 66 (0, 0)) (v := fun b => .slice (some ⟨b, 0, none⟩) 1 1) (fun b => by as_aux_lemma => kernel_rfl) (nofun) H ?_
    intro b20 w21 H
    have H := H.freeze 0 rfl prsS ([⟨key, dat⟩] : List Prs) 1 (by simp [maxLen]) (by first | exact Nat.le_refl _ | simp) (EsP.cons (c := [.string key, .string dat]) (prs_mk ⟨rfl, by first | assumption | (simp [maxLen]; done) | decide⟩ ⟨rfl, by first | assumption | (simp [maxLen]; done) | decide⟩) EsP.nil)
    have H : Hp w S [] [] [⟨prsS, 66, .slice a9 rs.length c9, rs⟩] [Rp (Shape.slice prsS) [.slice (some ⟨b20, 0, none⟩) 1 1] ([⟨key, dat⟩] : List Prs), Fc b12 o13 [.string (((wo l key)[k]).key), .string (((wo l key)[k]).data)], Rp (Shape.slice prsS) [.slice a3 (wo l key).length c4] (wo l key), Fc mb 0 [.slice al l.length cl], Rp (Shape.slice prsS) [.slice al l.length cl] l] _ := H
    refine RW.appendW (d := some 36) (r := (sq 6 7)) (T := 38) (ty := 38) (e := 66) (m := 2) (by_ := 32) (v := .slice a9 rs.length c9) (a2 := (some ⟨b20, 0, none⟩)) (l2 := 1) (c2 := 1) (zs := rs ++ [(⟨key, dat⟩ : Prs)]) (by as_aux_lemma => kernel_rfl) (by as_aux_lemma => kernel_rfl) rfl H 0 rfl 0 rfl (rfl) (by simp only [List.length_append, List.length_cons, List.length_nil]; omega) ?_
    intro a22 c23 w25 H hc24
    have H : Hp w S [] [] [⟨prsS, 66, .slice a22 ((rs ++ [(⟨key, dat⟩ : Prs)]).length) c23, rs ++ [(⟨key, dat⟩ : Prs)]⟩] [Rp (Shape.slice prsS) [.slice (some ⟨b20, 0, none⟩) 1 1] ([⟨key, dat⟩] : List Prs), Fc b12 o13 [.string (((wo l key)[k]).key), .string (((wo l key)[k]).data)], Rp (Shape.slice prsS) [.slice a3 (wo l key).length c4] (wo l key), Fc mb 0 [.slice al l.length cl], Rp (Shape.slice prsS) [.slice al l.length cl] l] _ := H
    refine qF 1 [(1, .string key), (2, .string dat), (7, .slice a22 ((rs ++ [(⟨key, dat⟩ : Prs)]).length) c23), (9, .slice a3 (wo l key).length c4), (10, .I k)] ?_
    refine qR 1 [.c [4, 0, 1, 0, 0, 1, 0, 0, 1], .b 1, .c [4, 0, 1, 0, 0, 2], .l [4, 0, 1, 0, 0], .b 0, .c [5]] [(1, .string key), (2, .string dat), (7, .slice a22 ((rs ++ [(⟨key, dat⟩ : Prs)]).length) c23), (8, .bool true), (9, .slice a3 (wo l key).length c4), (10, .I k)] ?_
    refine qG (sq 0 8) ?_
    refine qP 3 (sq 3 8) [(1, .string key), (2, .string dat), (7, .slice a22 ((rs ++ [(⟨key, dat⟩ : Prs)]).length) c23), (8, .bool true), (9, .slice a3 (wo l key).length c4), (10, .I k), (37, .slice a22 ((rs ++ [(⟨key, dat⟩ : Prs)]).length) c23), (38, .slice a3 (wo l key).length c4), (39, .I k)] ?_
    have hx26 : k < (wo l key).length := by omega
    refine qX .seq 40 (sq 4 8) 38 66 (k : Int) prsS ((wo l key)[k]) H 2 rfl k (by omega) (List.getElem?_eq_getElem hx26) ?_
    intro b27 o28 es29 hr30 H
    obtain ⟨rfl, hf32, hf33⟩ := prs_open hr30
    refine qL .seq 41 (sq 5 8) 66 b27 o28 0 (.agg #[.string (((wo l key)[k]).key), .string (((wo l key)[k]).data)]) (H.fc 0 rfl) ?_
    refine RW.new (κ := .seq) (d := some 42) (r := (sq 6 8)) (o := .cells #[.string (((wo l key)[k]).key), .string (((wo l key)[k]).data)] 66 (0, 0)) (v := fun b => .slice (some ⟨b, 0, none⟩) 1 1) (fun b => by as_aux_lemma => kernel_rfl) (nofun) H ?_
    intro b34 w35 H
    have H := H.freeze 0 rfl prsS ([((wo l key)[k])] : List Prs) 1 (by simp [maxLen]) (by first | exact Nat.le_refl _ | simp) (EsP.cons (c := [.string (((wo l key)[k]).key), .string (((wo l key)[k]).data)]) (prs_mk ⟨rfl, by first | assumption | (simp [maxLen]; done) | decide⟩ ⟨rfl, by first | assumption | (simp [maxLen]; done) | decide⟩) EsP.nil)
    have H : Hp w S [] [] [⟨prsS, 66, .slice a22 ((rs ++ [(⟨key, dat⟩ : Prs)]).length) c23, rs ++ [(⟨key, dat⟩ : Prs)]⟩] [Rp (Shape.slice prsS) [.slice (some ⟨b34, 0, none⟩) 1 1] ([((wo l key)[k])] : List Prs), Fc b27 o28 [.string (((wo l key)[k]).key), .string (((wo l key)[k]).data)], Rp (Shape.slice prsS) [.slice (some ⟨b20, 0, none⟩) 1 1] ([⟨key, dat⟩] : List Prs), Fc b12 o13 [.string (((wo l key)[k]).key), .string (((wo l key)[k]).data)], Rp (Shape.slice prsS) [.slice a3 (wo l key).length c4] (wo l key), Fc mb 0 [.slice al l.length cl], Rp (Shape.slice prsS) [.slice al l.length cl] l] _ := H
    refine RW.appendW (d := some 43) (r := (sq 7 8)) (T := 38) (ty := 38) (e := 66) (m := 2) (by_ := 32) (v := .slice a22 ((rs ++ [(⟨key, dat⟩ : Prs)]).length) c23) (a2 := (some ⟨b34, 0, none⟩)) (l2 := 1) (c2 := 1) (zs := (rs ++ [(⟨key, dat⟩ : Prs)]) ++ [(wo l key)[k]]) (by as_aux_lemma => kernel_rfl) (by as_aux_lemma => kernel_rfl) rfl H 0 rfl 0 rfl (rfl) (by simp only [List.length_append, List.length_cons, List.length_nil]; omega) ?_
    intro a36 c37 w39 H hc38
    have H : Hp w S [] [] [⟨prsS, 66, .slice a36 (((rs ++ [(⟨key, dat⟩ : Prs)]) ++ [(wo l key)[k]]).length) c37, (rs ++ [(⟨key, dat⟩ : Prs)]) ++ [(wo l key)[k]]⟩] [Rp (Shape.slice prsS) [.slice (some ⟨b34, 0, none⟩) 1 1] ([((wo l key)[k])] : List Prs), Fc b27 o28 [.string (((wo l key)[k]).key), .string (((wo l key)[k]).data)], Rp (Shape.slice prsS) [.slice (some ⟨b20, 0, none⟩) 1 1] ([⟨key, dat⟩] : List Prs), Fc b12 o13 [.string (((wo l key)[k]).key), .string (((wo l key)[k]).data)], Rp (Shape.slice prsS) [.slice a3 (wo l key).length c4] (wo l key), Fc mb 0 [.slice al l.length cl], Rp (Shape.slice prsS) [.slice al l.length cl] l] _ := H
    refine qF 1 [(1, .string key), (2, .string dat), (7, .slice a36 (((rs ++ [(⟨key, dat⟩ : Prs)]) ++ [(wo l key)[k]]).length) c37), (8, .bool true), (9, .slice a3 (wo l key).length c4), (10, .I k)] ?_
    refine qR 1 [.c [4, 0, 1, 0, 0, 2], .l [4, 0, 1, 0, 0], .b 0, .c [5]] [(1, .string key), (2, .string dat), (7, .slice a36 (((rs ++ [(⟨key, dat⟩ : Prs)]) ++ [(wo l key)[k]]).length) c37), (8, .bool true), (9, .slice a3 (wo l key).length c4), (10, .I k)] ?_
    refine qG (sq 0 3) ?_
    refine qP 1 (sq 1 3) [(1, .string key), (2, .string dat), (7, .slice a36 (((rs ++ [(⟨key, dat⟩ : Prs)]) ++ [(wo l key)[k]]).length) c37), (8, .bool true), (9, .slice a3 (wo l key).length c4), (10, .I k), (18, .I k)] ?_
    refine qI .seq 19 (sq 2 3) ((k : Int) + 1) ?_
    refine qF 1 [(1, .string key), (2, .string dat), (7, .slice a36 (((rs ++ [(⟨key, dat⟩ : Prs)]) ++ [(wo l key)[k]]).length) c37), (8, .bool true), (9, .slice a3 (wo l key).length c4), (10, .I ((k : Int) + 1))] ?_
    have H := H.pick [4, 5, 6] rfl
    exact WK.back (hback7 (k + 1, true, (rs ++ [(⟨key, dat⟩ : Prs)]) ++ [(wo l key)[k]], a36, c37) _ ⟨H, by omega, by subst hp; have h8 := hinv0.2.1; simp only [List.length_append, List.length_cons, List.length_nil, Bool.toNat_true, Bool.toNat_false] at h8 ⊢; omega, by subst hp; exact put_in hk1 hinv0.2.2⟩ (by first | omega | (simp only []; omega))) (by as_aux_lemma => kernel_rfl)
   ·
    refine qR 1 [.c [4, 0, 1, 0, 0, 1, 0, 0, 1], .b 1, .c [4, 0, 1, 0, 0, 2], .l [4, 0, 1, 0, 0], .b 0, .c [5]] [(1, .string key), (2, .string dat), (7, .slice a9 rs.length c9), (8, .bool pt), (9, .slice a3 (wo l key).length c4), (10, .I k)] ?_
    refine qG (sq 0 8) ?_
    refine qP 3 (sq 3 8) [(1, .string key), (2, .string dat), (7, .slice a9 rs.length c9), (8, .bool pt), (9, .slice a3 (wo l key).length c4), (10, .I k), (37, .slice a9 rs.length c9), (38, .slice a3 (wo l key).length c4), (39, .I k)] ?_
    have hx40 : k < (wo l key).length := by omega
    refine qX .seq 40 (sq 4 8) 38 66 (k : Int) prsS ((wo l key)[k]) H 1 rfl k (by omega) (List.getElem?_eq_getElem hx40) ?_
    intro b41 o42 es43 hr44 H
    obtain ⟨rfl, hf46, hf47⟩ := prs_open hr44
    refine qL .seq 41 (sq 5 8) 66 b41 o42 0 (.agg #[.string (((wo l key)[k]).key), .string (((wo l key)[k]).data)]) (H.fc 0 rfl) ?_
    refine RW.new (κ := .seq) (d := some 42) (r := (sq 6 8)) (o := .cells #[.string (((wo l key)[k]).key), .string (((wo l key)[k]).data)] 66 (0, 0)) (v := fun b => .slice (some ⟨b, 0, none⟩) 1 1) (fun b => by as_aux_lemma => kernel_rfl) (nofun) H ?_
    intro b48 w49 H
    have H := H.freeze 0 rfl prsS ([((wo l key)[k])] : List Prs) 1 (by simp [maxLen]) (by first | exact Nat.le_refl _ | simp) (EsP.cons (c := [.string (((wo l key)[k]).key), .string (((wo l key)[k]).data)]) (prs_mk ⟨rfl, by first | assumption | (simp [maxLen]; done) | decide⟩ ⟨rfl, by first | assumption | (simp [maxLen]; done) | decide⟩) EsP.nil)
    have H : Hp w S [] [] [⟨prsS, 66, .slice a9 rs.length c9, rs⟩] [Rp (Shape.slice prsS) [.slice (some ⟨b48, 0, none⟩) 1 1] ([((wo l key)[k])] : List Prs), Fc b41 o42 [.string (((wo l key)[k]).key), .string (((wo l key)[k]).data)], Fc b12 o13 [.string (((wo l key)[k]).key), .string (((wo l key)[k]).data)], Rp (Shape.slice prsS) [.slice a3 (wo l key).length c4] (wo l key), Fc mb 0 [.slice al l.length cl], Rp (Shape.slice prsS) [.slice al l.length cl] l] _ := H
    refine RW.appendW (d := some 43) (r := (sq 7 8)) (T := 38) (ty := 38) (e := 66) (m := 2) (by_ := 32) (v := .slice a9 rs.length c9) (a2 := (some ⟨b48, 0, none⟩)) (l2 := 1) (c2 := 1) (zs := rs ++ [(wo l key)[k]]) (by as_aux_lemma => kernel_rfl) (by as_aux_lemma => kernel_rfl) rfl H 0 rfl 0 rfl (rfl) (by simp only [List.length_append, List.length_cons, List.length_nil]; omega) ?_
    intro a50 c51 w53 H hc52
    have H : Hp w S [] [] [⟨prsS, 66, .slice a50 ((rs ++ [(wo l key)[k]]).length) c51, rs ++ [(wo l key)[k]]⟩] [Rp (Shape.slice prsS) [.slice (some ⟨b48, 0, none⟩) 1 1] ([((wo l key)[k])] : List Prs), Fc b41 o42 [.string (((wo l key)[k]).key), .string (((wo l key)[k]).data)], Fc b12 o13 [.string (((wo l key)[k]).key), .string (((wo l key)[k]).data)], Rp (Shape.slice prsS) [.slice a3 (wo l key).length c4] (wo l key), Fc mb 0 [.slice al l.length cl], Rp (Shape.slice prsS) [.slice al l.length cl] l] _ := H
    refine qF 1 [(1, .string key), (2, .string dat), (7, .slice a50 ((rs ++ [(wo l key)[k]]).length) c51), (8, .bool pt), (9, .slice a3 (wo l key).length c4), (10, .I k)] ?_
    refine qR 1 [.c [4, 0, 1, 0, 0, 2], .l [4, 0, 1, 0, 0], .b 0, .c [5]] [(1, .string key), (2, .string dat), (7, .slice a50 ((rs ++ [(wo l key)[k]]).length) c51), (8, .bool pt), (9, .slice a3 (wo l key).length c4), (10, .I k)] ?_
    refine qG (sq 0 3) ?_
    refine qP 1 (sq 1 3) [(1, .string key), (2, .string dat), (7, .slice a50 ((rs ++ [(wo l key)[k]]).length) c51), (8, .bool pt), (9, .slice a3 (wo l key).length c4), (10, .I k), (18, .I k)] ?_
    refine qI .seq 19 (sq 2 3) ((k : Int) + 1) ?_
    refine qF 1 [(1, .string key), (2, .string dat), (7, .slice a50 ((rs ++ [(wo l key)[k]]).length) c51), (8, .bool pt), (9, .slice a3 (wo l key).length c4), (10, .I ((k : Int) + 1))] ?_
    have H := H.pick [3, 4, 5] rfl
    exact WK.back (hback7 (k + 1, pt, rs ++ [(wo l key)[k]], a50, c51) _ ⟨H, by omega, by have h8 := hinv0.2.1; simp only [List.length_append, List.length_cons, List.length_nil]; omega, put_go hk1 hinv0.2.2⟩ (by first | omega | (simp only []; omega))) (by as_aux_lemma => kernel_rfl)
  ·
   replace h10 : (pt) = true := by revert h10; cases (pt) <;> simp
   refine qF 8 [(1, .string key), (2, .string dat), (7, .slice a9 rs.length c9), (8, .bool pt), (9, .slice a3 (wo l key).length c4), (10, .I k), (30, .bool false)] ?_
   refine qR 2 [.c [4, 0, 1, 0, 0, 1, 0, 0, 1], .b 1, .c [4, 0, 1, 0, 0, 2], .l [4, 0, 1, 0, 0], .b 0, .c [5]] [(1, .string key), (2, .string dat), (7, .slice a9 rs.length c9), (8, .bool pt), (9, .slice a3 (wo l key).length c4), (10, .I k)] ?_
   refine qG (sq 0 8) ?_
   refine qP 3 (sq 3 8) [(1, .string key), (2, .string dat), (7, .slice a9 rs.length c9), (8, .bool pt), (9, .slice a3 (wo l key).length c4), (10, .I k), (37, .slice a9 rs.length c9), (38, .slice a3 (wo l key).length c4), (39, .I k)] ?_
   have hx54 : k < (wo l key).length := by omega
   refine qX .seq 40 (sq 4 8) 38 66 (k : Int) prsS ((wo l key)[k]) H 0 rfl k (by omega) (List.getElem?_eq_getElem hx54) ?_
   intro b55 o56 es57 hr58 H
   obtain ⟨rfl, hf60, hf61⟩ := prs_open hr58
   refine qL .seq 41 (sq 5 8) 66 b55 o56 0 (.agg #[.string (((wo l key)[k]).key), .string (((wo l key)[k]).data)]) (H.fc 0 rfl) ?_
   refine RW.new (κ := .seq) (d := some 42) (r := (sq 6 8)) (o := .cells #[.string (((wo l key)[k]).key), .string (((wo l key)[k]).data)] 66 (0, 0)) (v := fun b => .slice (some ⟨b, 0, none⟩) 1 1) (fun b => by as_aux_lemma => kernel_rfl) (nofun) H ?_
   intro b62 w63 H
   have H := H.freeze 0 rfl prsS ([((wo l key)[k])] : List Prs) 1 (by simp [maxLen]) (by first | exact Nat.le_refl _ | simp) (EsP.cons (c := [.string (((wo l key)[k]).key), .string (((wo l key)[k]).data)]) (prs_mk ⟨rfl, by first | assumption | (simp [maxLen]; done) | decide⟩ ⟨rfl, by first | assumption | (simp [maxLen]; done) | decide⟩) EsP.nil)
   have H : Hp w S [] [] [⟨prsS, 66, .slice a9 rs.length c9, rs⟩] [Rp (Shape.slice prsS) [.slice (some ⟨b62, 0, none⟩) 1 1] ([((wo l key)[k])] : List Prs), Fc b55 o56 [.string (((wo l key)[k]).key), .string (((wo l key)[k]).data)], Rp (Shape.slice prsS) [.slice a3 (wo l key).length c4] (wo l key), Fc mb 0 [.slice al l.length cl], Rp (Shape.slice prsS) [.slice al l.length cl] l] _ := H
   refine RW.appendW (d := some 43) (r := (sq 7 8)) (T := 38) (ty := 38) (e := 66) (m := 2) (by_ := 32) (v := .slice a9 rs.length c9) (a2 := (some ⟨b62, 0, none⟩)) (l2 := 1) (c2 := 1) (zs := rs ++ [(wo l key)[k]]) (by as_aux_lemma => kernel_rfl) (by as_aux_lemma => kernel_rfl) rfl H 0 rfl 0 rfl (rfl) (by simp only [List.length_append, List.length_cons, List.length_nil]; omega) ?_
   intro a64 c65 w67 H hc66
   have H : Hp w S [] [] [⟨prsS, 66, .slice a64 ((rs ++ [(wo l key)[k]]).length) c65, rs ++ [(wo l key)[k]]⟩] [Rp (Shape.slice prsS) [.slice (some ⟨b62, 0, none⟩) 1 1] ([((wo l key)[k])] : List Prs), Fc b55 o56 [.string (((wo l key)[k]).key), .string (((wo l key)[k]).data)], Rp (Shape.slice prsS) [.slice a3 (wo l key).length c4] (wo l key), Fc mb 0 [.slice al l.length cl], Rp (Shape.slice prsS) [.slice al l.length cl] l] _ := H
   refine qF 1 [(1, .string key), (2, .string dat), (7, .slice a64 ((rs ++ [(wo l key)[k]]).length) c65), (8, .bool pt), (9, .slice a3 (wo l key).length c4), (10, .I k)] ?_
   refine qR 1 [.c [4, 0, 1, 0, 0, 2], .l [4, 0, 1, 0, 0], .b 0, .c [5]] [(1, .string key), (2, .string dat), (7, .slice a64 ((rs ++ [(wo l key)[k]]).length) c65), (8, .bool pt), (9, .slice a3 (wo l key).length c4), (10, .I k)] ?_
   refine qG (sq 0 3) ?_
   refine qP 1 (sq 1 3) [(1, .string key), (2, .string dat), (7, .slice a64 ((rs ++ [(wo l key)[k]]).length) c65), (8, .bool pt), (9, .slice a3 (wo l key).length c4), (10, .I k), (18, .I k)] ?_
   refine qI .seq 19 (sq 2 3) ((k : Int) + 1) ?_
   refine qF 1 [(1, .string key), (2, .string dat), (7, .slice a64 ((rs ++ [(wo l key)[k]]).length) c65), (8, .bool pt), (9, .slice a3 (wo l key).length c4), (10, .I ((k : Int) + 1))] ?_
   have H := H.pick [2, 3, 4] rfl
   exact WK.back (hback7 (k + 1, pt, rs ++ [(wo l key)[k]], a64, c65) _ ⟨H, by omega, by have h8 := hinv0.2.1; simp only [List.length_append, List.length_cons, List.length_nil]; omega, put_go hk1 hinv0.2.2⟩ (by first | omega | (simp only []; omega))) (by as_aux_lemma => kernel_rfl)
 ·
  refine qR 4 [.c [5, 0, 1], .c [6]] [(1, .string key), (2, .string dat), (7, .slice a9 rs.length c9), (45, .bool (!pt))] ?_
  refine qC (!pt) (fun h68 => ?_) (fun h68 => ?_)
  ·
   replace h68 : (pt) = false := by revert h68; cases (pt) <;> simp
   have hp : pt = false := by simpa using h68
   refine qG (sq 0 7) ?_
   refine qP 4 (sq 4 7) [(7, .slice a9 rs.length c9), (46, .slice a9 rs.length c9), (49, .agg #[.string key, .string dat])] ?_
   refine RW.new (κ := .seq) (d := some 50) (r := (sq 5 7)) (o := .cells #[.string key, .string dat] 66 (0, 0)) (v := fun b => .slice (some ⟨b, 0, none⟩) 1 1) (fun b => by as_aux_lemma => kernel_rfl) (nofun) H ?_
   intro b69 w70 H
   have H := H.freeze 0 rfl prsS ([⟨key, dat⟩] : List Prs) 1 (by simp [maxLen]) (by first | exact Nat.le_refl _ | simp) (EsP.cons (c := [.string key, .string dat]) (prs_mk ⟨rfl, by first | assumption | (simp [maxLen]; done) | decide⟩ ⟨rfl, by first | assumption | (simp [maxLen]; done) | decide⟩) EsP.nil)
   have H : Hp w S [] [] [⟨prsS, 66, .slice a9 rs.length c9, rs⟩] [Rp (Shape.slice prsS) [.slice (some ⟨b69, 0, none⟩) 1 1] ([⟨key, dat⟩] : List Prs), Rp (Shape.slice prsS) [.slice a3 (wo l key).length c4] (wo l key), Fc mb 0 [.slice al l.length cl], Rp (Shape.slice prsS) [.slice al l.length cl] l] _ := H
   refine RW.appendW (d := some 51) (r := (sq 6 7)) (T := 38) (ty := 38) (e := 66) (m := 2) (by_ := 32) (v := .slice a9 rs.length c9) (a2 := (some ⟨b69, 0, none⟩)) (l2 := 1) (c2 := 1) (zs := rs ++ [(⟨key, dat⟩ : Prs)]) (by as_aux_lemma => kernel_rfl) (by as_aux_lemma => kernel_rfl) rfl H 0 rfl 0 rfl (rfl) (by simp only [List.length_append, List.length_cons, List.length_nil]; omega) ?_
   intro a71 c72 w74 H hc73
   have H : Hp w S [] [] [⟨prsS, 66, .slice a71 ((rs ++ [(⟨key, dat⟩ : Prs)]).length) c72, rs ++ [(⟨key, dat⟩ : Prs)]⟩] [Rp (Shape.slice prsS) [.slice (some ⟨b69, 0, none⟩) 1 1] ([⟨key, dat⟩] : List Prs), Rp (Shape.slice prsS) [.slice a3 (wo l key).length c4] (wo l key), Fc mb 0 [.slice al l.length cl], Rp (Shape.slice prsS) [.slice al l.length cl] l] _ := H
   refine qF 1 [(7, .slice a71 ((rs ++ [(⟨key, dat⟩ : Prs)]).length) c72)] ?_
   refine qR 1 [.c [6, 0], .c [7]] [(7, .slice a71 ((rs ++ [(⟨key, dat⟩ : Prs)]).length) c72)] ?_
   refine qG (sq 0 4) ?_
   refine qP 2 (sq 2 4) [(53, .agg #[.slice a71 ((rs ++ [(⟨key, dat⟩ : Prs)]).length) c72])] ?_
   refine qB .seq 54 (sq 3 4) #[.slice a71 ((rs ++ [(⟨key, dat⟩ : Prs)]).length) c72] 40 H ?_
   intro b75 w76 H
   refine qF 1 [(6, .P b75 0)] ?_
   refine qT (.P b75 0) Tryd.func20 ?_
   have H : Hp w S [] [(b75, .cells #[.slice a71 ((rs ++ [(⟨key, dat⟩ : Prs)]).length) c72] 40 (0, 0))] [] [Rp (Shape.slice prsS) [.slice a71 ((rs ++ [(⟨key, dat⟩ : Prs)]).length) c72] (rs ++ [(⟨key, dat⟩ : Prs)]), Rp (Shape.slice prsS) [.slice (some ⟨b69, 0, none⟩) 1 1] ([⟨key, dat⟩] : List Prs), Rp (Shape.slice prsS) [.slice a3 (wo l key).length c4] (wo l key), Fc mb 0 [.slice al l.length cl], Rp (Shape.slice prsS) [.slice al l.length cl] l] _ := H.freezeW 0 rfl
   have H := H.freezeM
   have H : Hp w S [] [] [] [Fc b75 0 [.slice a71 ((rs ++ [(⟨key, dat⟩ : Prs)]).length) c72], Rp (Shape.slice prsS) [.slice a71 ((rs ++ [(⟨key, dat⟩ : Prs)]).length) c72] (rs ++ [(⟨key, dat⟩ : Prs)]), Rp (Shape.slice prsS) [.slice (some ⟨b69, 0, none⟩) 1 1] ([⟨key, dat⟩] : List Prs), Rp (Shape.slice prsS) [.slice a3 (wo l key).length c4] (wo l key), Fc mb 0 [.slice al l.length cl], Rp (Shape.slice prsS) [.slice al l.length cl] l] _ := H
   have H := H.drop (M' := []) (W' := []) (List.nil_sublist _) (List.nil_sublist _)
   have hwl := wo_len l key
   exact ⟨_, rfl, H.done, b75, _, _, _, rfl, by subst hp; have h8 := hinv0.2.1; simp only [List.length_append, List.length_cons, List.length_nil, Bool.toNat_false] at h8 ⊢; omega, by subst hp; exact put_add (by omega) hinv0.2.2, H.pick [0, 1] rfl⟩
  ·
   replace h68 : (pt) = true := by revert h68; cases (pt) <;> simp
   have hp : pt = true := by simpa using h68
   refine qR 2 [.c [6, 0], .c [7]] [(7, .slice a9 rs.length c9)] ?_
   refine qG (sq 0 4) ?_
   refine qP 2 (sq 2 4) [(53, .agg #[.slice a9 rs.length c9])] ?_
   refine qB .seq 54 (sq 3 4) #[.slice a9 rs.length c9] 40 H ?_
   intro b77 w78 H
   refine qF 1 [(6, .P b77 0)] ?_
   refine qT (.P b77 0) Tryd.func20 ?_
   have H : Hp w S [] [(b77, .cells #[.slice a9 rs.length c9] 40 (0, 0))] [] [Rp (Shape.slice prsS) [.slice a9 rs.length c9] rs, Rp (Shape.slice prsS) [.slice a3 (wo l key).length c4] (wo l key), Fc mb 0 [.slice al l.length cl], Rp (Shape.slice prsS) [.slice al l.length cl] l] _ := H.freezeW 0 rfl
   have H := H.freezeM
   have H : Hp w S [] [] [] [Fc b77 0 [.slice a9 rs.length c9], Rp (Shape.slice prsS) [.slice a9 rs.length c9] rs, Rp (Shape.slice prsS) [.slice a3 (wo l key).length c4] (wo l key), Fc mb 0 [.slice al l.length cl], Rp (Shape.slice prsS) [.slice al l.length cl] l] _ := H
   have H := H.drop (M' := []) (W' := []) (List.nil_sublist _) (List.nil_sublist _)
   have hwl := wo_len l key
   exact ⟨_, rfl, H.done, b77, _, _, _, rfl, by subst hp; have h8 := hinv0.2.1; simp only [Bool.toNat_true] at h8; omega, by subst hp; exact put_end (by omega) hinv0.2.2, H.pick [0, 1] rfl⟩
set_option maxHeartbeats 4000000 in
theorem rdo_spec {S : Nat → Prop} {w : World} {mb : Nat} {l : List Prs} {al : Option Addr} {cl : Nat} (hM : (Fc mb 0 [.slice al l.length cl]).p S w) (hl : (Shape.slice prsS).rep S w [.slice al l.length cl] l) {x : Wop} {xs : List Value} (hx : wopS.rep S w xs x) (hk : x.kind = 1 ∨ x.kind = 3) (hf : x.fin ≠ 0) (hc : x.code = 1 ∨ x.code = 2) (hll : l.length ≤ 1048576) :
 Calls Tryd.prog 12 #[.P mb 0, .agg xs.toArray] w (Ret fun v w' => Ext w w' ∧ ∃ (nb : Nat) (a' : Option Addr) (c' : Nat) (l' : List Prs), v = .tuple #[.P nb 0, .bool (doB x l)] ∧ l'.length ≤ l.length + 1 ∧ nextB x l l' ∧ Hp w S [] [] [] [Fc nb 0 [.slice a' l'.length c'], Rp (Shape.slice prsS) [.slice a' l'.length c'] l'] w') := by
 obtain ⟨a4x, k4x, a6x, k6x, a7x, k7x, rfl, h0x, h1x, h2x, h3x, h4x, h5x, h6x, h7x, h8x, h9x⟩ := wop_open hx
 have hlen := Shape.slice_len hl
 have hop := opn_not hf hc
 have hds : (Go.BX.strOf x.data).size ≤ maxLen := by
  have h9 := Shape.slice_len h4x
  have h8 := strB_size x.data
  change (Go.BX.strOf x.data).size = _ at h8
  unfold maxLen; omega
 refine qS (fn := Tryd.f12) (n := 112) (σ := [(0, .P mb 0), (1, .agg #[.int .u64 x.client, .int .u64 x.seq, .I x.kind, .string x.key, .slice a4x x.data.length k4x, .I x.code, .slice a6x x.answer.length k6x, .slice a7x x.names.length k7x, .I x.beg, .I x.fin])]) Tryd.func12 ?_
 have H := Hp.startF (w := w) (S := S) (G := [Fc mb 0 [.slice al l.length cl], Rp (Shape.slice prsS) [.slice al l.length cl] l, Rp SB [.slice a4x x.data.length k4x] x.data, Rp SB [.slice a6x x.answer.length k6x] x.answer, Rp (Shape.slice Shape.str) [.slice a7x x.names.length k7x] x.names]) (.cons hM (.rp hl (.rp h4x (.rp h6x (.rp h7x .nil)))))
 refine qR 1 [.c [0], .c [1]] [(0, .P mb 0), (1, .agg #[.int .u64 x.client, .int .u64 x.seq, .I x.kind, .string x.key, .slice a4x x.data.length k4x, .I x.code, .slice a6x x.answer.length k6x, .slice a7x x.names.length k7x, .I x.beg, .I x.fin])] ?_
 refine qG (sq 0 3) ?_
 refine qB .seq 3 (sq 1 3) #[.int .u64 x.client, .int .u64 x.seq, .I x.kind, .string x.key, .slice a4x x.data.length k4x, .I x.code, .slice a6x x.answer.length k6x, .slice a7x x.names.length k7x, .I x.beg, .I x.fin] 33 H ?_
 intro b1 w2 H
 refine qF 2 [(0, .P mb 0), (3, .P b1 0)] ?_
 refine qR 1 [.c [1, 0], .c [2]] [(0, .P mb 0), (3, .P b1 0)] ?_
 refine qG (sq 0 5) ?_
 refine qP 2 (sq 2 5) [(0, .P mb 0), (3, .P b1 0), (10, .P mb 0), (11, .P b1 3)] ?_
 refine qL .seq 12 (sq 3 5) 9 b1 3 3 (.string x.key) (H.cells 0 rfl) ?_
 refine qK .seq (some 13) (sq 4 5) 18 #[.P mb 0, .string x.key] (rat_spec (H.fact 0 rfl) (H.rp 1 rfl)) ?_
 rintro _ w3 hE4 ⟨j5, rfl, hat6⟩
 have H := H.ext hE4
 refine qF 1 [(0, .P mb 0), (3, .P b1 0), (6, .I j5)] ?_
 refine qR 1 [.c [2, 0], .c [3]] [(0, .P mb 0), (3, .P b1 0), (6, .I j5)] ?_
 refine qG (sq 0 3) ?_
 refine qL .seq 14 (sq 1 3) 33 b1 0 0 (.agg #[.int .u64 x.client, .int .u64 x.seq, .I x.kind, .string x.key, .slice a4x x.data.length k4x, .I x.code, .slice a6x x.answer.length k6x, .slice a7x x.names.length k7x, .I x.beg, .I x.fin]) (H.cells 0 rfl) ?_
 refine qK .seq (some 15) (sq 2 3) 19 #[.agg #[.int .u64 x.client, .int .u64 x.seq, .I x.kind, .string x.key, .slice a4x x.data.length k4x, .I x.code, .slice a6x x.answer.length k6x, .slice a7x x.names.length k7x, .I x.beg, .I x.fin]] (ropen_spec (x := x) (wop_mk (l0 := [.int .u64 x.client]) (y0 := x.client) (l1 := [.int .u64 x.seq]) (y1 := x.seq) (l2 := [.I x.kind]) (y2 := x.kind) (l3 := [.string x.key]) (y3 := x.key) (l4 := [.slice a4x x.data.length k4x]) (y4 := x.data) (l5 := [.I x.code]) (y5 := x.code) (l6 := [.slice a6x x.answer.length k6x]) (y6 := x.answer) (l7 := [.slice a7x x.names.length k7x]) (y7 := x.names) (l8 := [.I x.beg]) (y8 := x.beg) (l9 := [.I x.fin]) (y9 := x.fin) u64a u64a i64a ⟨rfl, h3x⟩ (H.rp 2 rfl) i64a (H.rp 3 rfl) (H.rp 4 rfl) i64a i64a)) ?_
 rintro _ w7 hE8 rfl
 have H := H.ext hE8
 refine qF 1 [(0, .P mb 0), (3, .P b1 0), (6, .I j5), (7, .bool (opn x))] ?_
 refine qR 2 [.c [3, 0, 0], .c [3, 0, 1], .c [4]] [(0, .P mb 0), (3, .P b1 0), (6, .I j5), (7, .bool (opn x))] ?_
 refine qG (sq 0 2) ?_
 refine qP 1 (sq 1 2) [(0, .P mb 0), (3, .P b1 0), (6, .I j5), (7, .bool (opn x)), (16, .P b1 2)] ?_
 refine qL .seq 17 (sq 2 2) 28 b1 2 2 (.I x.kind) (H.cells 0 rfl) ?_
 refine qF 0 [(0, .P mb 0), (3, .P b1 0), (6, .I j5), (7, .bool (opn x)), (17, .I x.kind)] ?_
 refine qR 3 [.c [3, 0, 1, 0, 1], .b 0, .c [4]] [(0, .P mb 0), (3, .P b1 0), (6, .I j5), (7, .bool (opn x)), (17, .I x.kind), (18, .bool (x.kind == 1))] ?_
 refine qE x.kind 1 (fun h9 => ?_) (fun h9 => ?_)
 ·
  have hk1 : x.kind = 1 := h9
  refine qR 1 [.c [3, 0, 1, 0, 1, 0, 0], .c [3, 0, 1, 0, 1, 0, 1], .b 0, .c [4]] [(0, .P mb 0), (3, .P b1 0), (7, .bool (opn x))] ?_
  refine WK.draw1 15 [(0, .qui), (1, .qui), (2, .qui), (3, .qui), (4, .qui), (5, .qui), (7, .qui), (6, .chn), (8, .qui), (9, .qui), (10, .qui), (11, .qui), (12, .qui), (13, .qui), (14, .qui)] [(0, .qui), (1, .qui), (2, .qui), (3, .qui), (4, .qui), (5, .qui), (7, .qui), (6, .chn), (8, .qui), (9, .qui), (10, .qui), (11, .qui), (12, .qui), (13, .qui), (14, .qui)] Tryd_mixed (by as_aux_lemma => kernel_rfl) (by as_aux_lemma => kernel_rfl) (by as_aux_lemma => kernel_rfl) ?_
  have H := H.draw
  generalize ({ w7 with drawn := w7.drawn + 1 } : World) = w10 at H ⊢
  refine qP 2 [(2, .qui), (3, .qui), (4, .qui), (5, .qui), (7, .qui), (6, .chn), (8, .qui), (9, .qui), (10, .qui), (11, .qui), (12, .qui), (13, .qui), (14, .qui)] [(3, .P b1 0), (7, .bool (opn x)), (20, .P mb 0), (21, .P b1 3)] ?_
  refine qL .qui 22 [(3, .qui), (4, .qui), (5, .qui), (7, .qui), (6, .chn), (8, .qui), (9, .qui), (10, .qui), (11, .qui), (12, .qui), (13, .qui), (14, .qui)] 9 b1 3 3 (.string x.key) (H.cells 0 rfl) ?_
  refine qP 1 [(4, .qui), (5, .qui), (7, .qui), (6, .chn), (8, .qui), (9, .qui), (10, .qui), (11, .qui), (12, .qui), (13, .qui), (14, .qui)] [(3, .P b1 0), (7, .bool (opn x)), (20, .P mb 0), (22, .string x.key), (23, .P b1 4)] ?_
  refine qL .qui 24 [(5, .qui), (7, .qui), (6, .chn), (8, .qui), (9, .qui), (10, .qui), (11, .qui), (12, .qui), (13, .qui), (14, .qui)] 29 b1 4 4 (.slice a4x x.data.length k4x) (H.cells 0 rfl) ?_
  refine RW.toStr (κ := .qui) (d := some 25) (r := [(7, .qui), (6, .chn), (8, .qui), (9, .qui), (10, .qui), (11, .qui), (12, .qui), (13, .qui), (14, .qui)]) (Ts := 29) (Td := 9) 5 (a := a4x) (len := x.data.length) (cap := k4x) (xs := x.data) (by as_aux_lemma => kernel_rfl) (by as_aux_lemma => kernel_rfl) (H.rp 2 rfl) ?_
  refine qP 1 [(6, .chn), (8, .qui), (9, .qui), (10, .qui), (11, .qui), (12, .qui), (13, .qui), (14, .qui)] [(3, .P b1 0), (20, .P mb 0), (22, .string x.key), (25, .string (Go.BX.strOf x.data)), (27, .bool (opn x))] ?_
  refine qK .chn (some 26) (qs [8, 9, 10, 11, 12, 13, 14]) 20 #[.P mb 0, .string x.key, .string (Go.BX.strOf x.data)] (rput_spec (H.fact 0 rfl) (H.rp 1 rfl) (by assumption) (by assumption) (by omega)) ?_
  rintro _ w11 - ⟨mb12, a13, c14, l15, rfl, hm16, hm17, H'⟩
  have H := H.back (M1 := []) (W1 := []) H'
  have H : Hp w S [] [(b1, .cells #[.int .u64 x.client, .int .u64 x.seq, .I x.kind, .string x.key, .slice a4x x.data.length k4x, .I x.code, .slice a6x x.answer.length k6x, .slice a7x x.names.length k7x, .I x.beg, .I x.fin] 33 (0, 0))] [] [Fc mb12 0 [.slice a13 l15.length c14], Rp (Shape.slice prsS) [.slice a13 l15.length c14] l15, Fc mb 0 [.slice al l.length cl], Rp (Shape.slice prsS) [.slice al l.length cl] l, Rp SB [.slice a4x x.data.length k4x] x.data, Rp SB [.slice a6x x.answer.length k6x] x.answer, Rp (Shape.slice Shape.str) [.slice a7x x.names.length k7x] x.names] _ := H
  refine qP 1 (qs [9, 10, 11, 12, 13, 14]) [(3, .P b1 0), (26, .P mb12 0), (28, .bool (opn x))] ?_
  refine RW.test (fun b_ => [(3, .P b1 0), (26, .P mb12 0), (28, .bool b_)]) (opn x) (fun h18 => ?_) (fun h18 => ?_)
  ·
   exact absurd h18 (by rw [hop]; decide)
  ·
   refine qP 1 (qs [10, 11, 12, 13, 14]) [(26, .P mb12 0), (28, .bool false), (29, .P b1 5)] ?_
   refine qL .qui 30 (qs [11, 12, 13, 14]) 30 b1 5 5 (.I x.code) (H.cells 0 rfl) ?_
   refine qF 4 [(4, .P mb12 0), (5, .bool (x.code == 1))] ?_
   refine qT (.tuple #[.P mb12 0, .bool (x.code == 1)]) Tryd.func12 ?_
   have H := H.drop (M' := []) (W' := []) (List.nil_sublist _) (List.nil_sublist _)
   refine ⟨_, rfl, H.done, mb12, _, _, _, congrArg (fun q => Value.tuple #[Value.pointer (some ⟨mb12, 0, none⟩), Value.bool q]) ?_, hm16, ?_, H.pick [0, 1] rfl⟩
   · unfold doB; rw [if_pos hk1]; rfl
   · unfold nextB; rw [if_pos hk1]; exact hm17
 ·
  have hk1 : ¬ x.kind = 1 := h9
  refine qR 2 [.c [3, 0, 1, 0, 1, 1, 1], .b 0, .c [4]] [(0, .P mb 0), (3, .P b1 0), (6, .I j5), (7, .bool (opn x)), (17, .I x.kind), (33, .bool (x.kind == 3))] ?_
  refine qE x.kind 3 (fun h19 => ?_) (fun h19 => ?_)
  ·
   have hk3 : x.kind = 3 := h19
   refine qR 1 [.c [3, 0, 1, 0, 1, 1, 1, 0, 0], .c [3, 0, 1, 0, 1, 1, 1, 0, 1], .b 0, .c [4]] [(0, .P mb 0), (3, .P b1 0), (6, .I j5), (7, .bool (opn x))] ?_
   refine WK.joinV (α := Bool) (fun x_ w_ => match x_ with | g1 => Hp w S [] [(b1, .cells #[.int .u64 x.client, .int .u64 x.seq, .I x.kind, .string x.key, .slice a4x x.data.length k4x, .I x.code, .slice a6x x.answer.length k6x, .slice a7x x.names.length k7x, .I x.beg, .I x.fin] 33 (0, 0))] [] [Fc mb 0 [.slice al l.length cl], Rp (Shape.slice prsS) [.slice al l.length cl] l, Rp SB [.slice a4x x.data.length k4x] x.data, Rp SB [.slice a6x x.answer.length k6x] x.answer, Rp (Shape.slice Shape.str) [.slice a7x x.names.length k7x] x.names] w_ ∧ (g1 = true ↔ ((x.code = 1 ∧ 0 ≤ j5) ∨ (x.code = 2 ∧ ¬ 0 ≤ j5)))) (fun x_ => match x_ with | g1 => [(0, .P mb 0), (3, .P b1 0), (7, .bool (opn x)), (8, .bool g1)]) [Cq Tryd.prog 12 [3, 0, 1, 0, 1, 1, 1, 0, 1], .inBlock 0, Cq Tryd.prog 12 [4]] (fun hJ20 => ?_) ?_
   ·
    refine qG (sq 0 17) ?_
    refine qP 1 (sq 1 17) [(0, .P mb 0), (3, .P b1 0), (6, .I j5), (7, .bool (opn x)), (35, .P b1 5)] ?_
    refine qL .seq 36 (sq 2 17) 30 b1 5 5 (.I x.code) (H.cells 0 rfl) ?_
    refine qP 2 (sq 4 17) [(0, .P mb 0), (3, .P b1 0), (6, .I j5), (7, .bool (opn x)), (38, .bool (x.code == 1))] ?_
    refine tE (fun b_ => [(0, .P mb 0), (3, .P b1 0), (6, .I j5), (7, .bool (opn x)), (38, .bool b_)]) x.code 1 (fun h22 => ?_) (fun h22 => ?_)
    ·
     refine qP 4 (sq 8 17) [(0, .P mb 0), (3, .P b1 0), (6, .I j5), (7, .bool (opn x)), (42, .bool (decide ((j5 : Int) ≥ 0)))] ?_
     refine tD (fun b_ => [(0, .P mb 0), (3, .P b1 0), (6, .I j5), (7, .bool (opn x)), (42, .bool b_)]) ((j5 : Int) ≥ 0) (fun h23 => ?_) (fun h23 => ?_)
     ·
      refine qF 9 [(0, .P mb 0), (3, .P b1 0), (7, .bool (opn x)), (8, .bool true)] ?_
      exact hJ20 (true) _ ⟨H, ⟨fun _ => by first | omega | (simp_all; done), fun _ => rfl⟩⟩
     ·
      refine qP 1 (sq 9 17) [(0, .P mb 0), (3, .P b1 0), (6, .I j5), (7, .bool (opn x)), (42, .bool false), (43, .P b1 5)] ?_
      refine qL .seq 44 (sq 10 17) 30 b1 5 5 (.I x.code) (H.cells 0 rfl) ?_
      refine qP 2 (sq 12 17) [(0, .P mb 0), (3, .P b1 0), (6, .I j5), (7, .bool (opn x)), (42, .bool false), (46, .bool (x.code == 2))] ?_
      refine tE (fun b_ => [(0, .P mb 0), (3, .P b1 0), (6, .I j5), (7, .bool (opn x)), (42, .bool false), (46, .bool b_)]) x.code 2 (fun h24 => ?_) (fun h24 => ?_)
      ·
       refine qF 5 [(0, .P mb 0), (3, .P b1 0), (7, .bool (opn x)), (8, .bool (decide ((j5 : Int) < 0)))] ?_
       exact hJ20 (decide ((j5 : Int) < 0)) _ ⟨H, by first | (simp only [decide_eq_true_iff, Bool.not_eq_true', decide_eq_false_iff_not, Bool.not_eq_true, bne_iff_ne, beq_iff_eq, ne_eq]; omega) | (simp_all; done) | (simp_all; omega)⟩
      ·
       refine qF 5 [(0, .P mb 0), (3, .P b1 0), (7, .bool (opn x)), (8, .bool false)] ?_
       exact hJ20 (false) _ ⟨H, ⟨fun h => (by cases h), fun h => by first | omega | (simp_all; done)⟩⟩
    ·
     refine qP 5 (sq 9 17) [(0, .P mb 0), (3, .P b1 0), (6, .I j5), (7, .bool (opn x)), (42, .bool false), (43, .P b1 5)] ?_
     refine qL .seq 44 (sq 10 17) 30 b1 5 5 (.I x.code) (H.cells 0 rfl) ?_
     refine qP 2 (sq 12 17) [(0, .P mb 0), (3, .P b1 0), (6, .I j5), (7, .bool (opn x)), (42, .bool false), (46, .bool (x.code == 2))] ?_
     refine tE (fun b_ => [(0, .P mb 0), (3, .P b1 0), (6, .I j5), (7, .bool (opn x)), (42, .bool false), (46, .bool b_)]) x.code 2 (fun h25 => ?_) (fun h25 => ?_)
     ·
      refine qF 5 [(0, .P mb 0), (3, .P b1 0), (7, .bool (opn x)), (8, .bool (decide ((j5 : Int) < 0)))] ?_
      exact hJ20 (decide ((j5 : Int) < 0)) _ ⟨H, by first | (simp only [decide_eq_true_iff, Bool.not_eq_true', decide_eq_false_iff_not, Bool.not_eq_true, bne_iff_ne, beq_iff_eq, ne_eq]; omega) | (simp_all; done) | (simp_all; omega)⟩
     ·
      refine qF 5 [(0, .P mb 0), (3, .P b1 0), (7, .bool (opn x)), (8, .bool false)] ?_
      exact hJ20 (false) _ ⟨H, ⟨fun h => (by cases h), fun h => by first | omega | (simp_all; done)⟩⟩
   ·
    rintro g1 w21 ⟨H, hg1⟩
    refine qR 1 [.c [3, 0, 1, 0, 1, 1, 1, 0, 1, 0], .c [3, 0, 1, 0, 1, 1, 1, 0, 2], .b 0, .c [4]] [(0, .P mb 0), (3, .P b1 0), (7, .bool (opn x)), (8, .bool g1)] ?_
    refine qG (sq 0 12) ?_
    refine qP 2 (sq 2 12) [(7, .bool (opn x)), (8, .bool g1), (51, .P mb 0), (52, .P b1 3)] ?_
    refine qL .seq 53 (sq 3 12) 9 b1 3 3 (.string x.key) (H.cells 0 rfl) ?_
    refine qK .seq (some 54) (sq 4 12) 21 #[.P mb 0, .string x.key] (without_spec (H.fact 0 rfl) (H.rp 1 rfl) (key := x.key) (by omega)) ?_
    rintro v27 w26 - H'
    have H := H.back (M1 := []) (W1 := []) H'
    obtain ⟨a28, c29, rfl, hc30, hm31⟩ := H.ownForm 0 rfl
    have H : Hp w S [] [(b1, .cells #[.int .u64 x.client, .int .u64 x.seq, .I x.kind, .string x.key, .slice a4x x.data.length k4x, .I x.code, .slice a6x x.answer.length k6x, .slice a7x x.names.length k7x, .I x.beg, .I x.fin] 33 (0, 0))] [⟨prsS, 66, .slice a28 (wo l x.key).length c29, wo l x.key⟩] [Fc mb 0 [.slice al l.length cl], Rp (Shape.slice prsS) [.slice al l.length cl] l, Rp SB [.slice a4x x.data.length k4x] x.data, Rp SB [.slice a6x x.answer.length k6x] x.answer, Rp (Shape.slice Shape.str) [.slice a7x x.names.length k7x] x.names] _ := H
    refine qP 1 (sq 5 12) [(7, .bool (opn x)), (8, .bool g1), (55, .agg #[.slice a28 (wo l x.key).length c29])] ?_
    refine qB .seq 56 (sq 6 12) #[.slice a28 (wo l x.key).length c29] 40 H ?_
    intro b32 w33 H
    refine qP 2 (sq 8 12) [(8, .bool g1), (56, .P b32 0), (58, .bool (opn x))] ?_
    refine RW.test (fun b_ => [(8, .bool g1), (56, .P b32 0), (58, .bool b_)]) (opn x) (fun h34 => ?_) (fun h34 => ?_)
    ·
     exact absurd h34 (by rw [hop]; decide)
    ·
     refine qF 4 [(4, .P b32 0), (5, .bool g1)] ?_
     refine qT (.tuple #[.P b32 0, .bool g1]) Tryd.func12 ?_
     have H : Hp w S [] [(b32, .cells #[.slice a28 (wo l x.key).length c29] 40 (0, 0)), (b1, .cells #[.int .u64 x.client, .int .u64 x.seq, .I x.kind, .string x.key, .slice a4x x.data.length k4x, .I x.code, .slice a6x x.answer.length k6x, .slice a7x x.names.length k7x, .I x.beg, .I x.fin] 33 (0, 0))] [] [Rp (Shape.slice prsS) [.slice a28 (wo l x.key).length c29] (wo l x.key), Fc mb 0 [.slice al l.length cl], Rp (Shape.slice prsS) [.slice al l.length cl] l, Rp SB [.slice a4x x.data.length k4x] x.data, Rp SB [.slice a6x x.answer.length k6x] x.answer, Rp (Shape.slice Shape.str) [.slice a7x x.names.length k7x] x.names] _ := H.freezeW 0 rfl
     have H := H.freezeM
     have H : Hp w S [] [(b1, .cells #[.int .u64 x.client, .int .u64 x.seq, .I x.kind, .string x.key, .slice a4x x.data.length k4x, .I x.code, .slice a6x x.answer.length k6x, .slice a7x x.names.length k7x, .I x.beg, .I x.fin] 33 (0, 0))] [] [Fc b32 0 [.slice a28 (wo l x.key).length c29], Rp (Shape.slice prsS) [.slice a28 (wo l x.key).length c29] (wo l x.key), Fc mb 0 [.slice al l.length cl], Rp (Shape.slice prsS) [.slice al l.length cl] l, Rp SB [.slice a4x x.data.length k4x] x.data, Rp SB [.slice a6x x.answer.length k6x] x.answer, Rp (Shape.slice Shape.str) [.slice a7x x.names.length k7x] x.names] _ := H
     have H := H.drop (M' := []) (W' := []) (List.nil_sublist _) (List.nil_sublist _)
     refine ⟨_, rfl, H.done, b32, _, _, _, congrArg (fun q => Value.tuple #[Value.pointer (some ⟨b32, 0, none⟩), Value.bool q]) ?_, Nat.le_trans (wo_len _ _) (by omega), ?_, H.pick [0, 1] rfl⟩
     · unfold doB; rw [if_neg (by omega), Bool.eq_iff_iff, hg1, hat6]; cases hasB l x.key <;> simp
     · unfold nextB; rw [if_neg (by omega)]; exact fun q => wo_has l x.key q
  ·
   omega
set_option maxHeartbeats 4000000 in
theorem told_spec {S : Nat → Prop} {w : World} {mb : Nat} {l : List Prs} {al : Option Addr} {cl : Nat} (hM : (Fc mb 0 [.slice al l.length cl]).p S w) (hl : (Shape.slice prsS).rep S w [.slice al l.length cl] l) {x : Wop} {xs : List Value} (hx : wopS.rep S w xs x) (hk : x.kind = 1 ∨ x.kind = 3) (hf : x.fin ≠ 0) (hll : l.length ≤ 1048576) :
 Calls Tryd.prog 9 #[.P mb 0, .agg xs.toArray] w (Ret fun v w' => Ext w w' ∧ ∃ (nb : Nat) (a' : Option Addr) (c' : Nat) (l' : List Prs) (cd : Int), v = .tuple #[.agg (xs.set 5 (.I cd)).toArray, .P nb 0] ∧ (cd = if x.kind = 3 ∧ hasB l x.key = false then 2 else 1) ∧ l'.length ≤ l.length + 1 ∧ nextB x l l' ∧ Hp w S [] [] [] [Fc nb 0 [.slice a' l'.length c'], Rp (Shape.slice prsS) [.slice a' l'.length c'] l'] w') := by
 obtain ⟨a4x, k4x, a6x, k6x, a7x, k7x, rfl, h0x, h1x, h2x, h3x, h4x, h5x, h6x, h7x, h8x, h9x⟩ := wop_open hx
 have hlen := Shape.slice_len hl
 refine qS (fn := Tryd.f9) (n := 31) (σ := [(0, .P mb 0), (1, .agg #[.int .u64 x.client, .int .u64 x.seq, .I x.kind, .string x.key, .slice a4x x.data.length k4x, .I x.code, .slice a6x x.answer.length k6x, .slice a7x x.names.length k7x, .I x.beg, .I x.fin])]) Tryd.func9 ?_
 have H := Hp.startF (w := w) (S := S) (G := [Fc mb 0 [.slice al l.length cl], Rp (Shape.slice prsS) [.slice al l.length cl] l, Rp SB [.slice a4x x.data.length k4x] x.data, Rp SB [.slice a6x x.answer.length k6x] x.answer, Rp (Shape.slice Shape.str) [.slice a7x x.names.length k7x] x.names]) (.cons hM (.rp hl (.rp h4x (.rp h6x (.rp h7x .nil)))))
 refine qR 1 [.c [0], .c [1]] [(0, .P mb 0), (1, .agg #[.int .u64 x.client, .int .u64 x.seq, .I x.kind, .string x.key, .slice a4x x.data.length k4x, .I x.code, .slice a6x x.answer.length k6x, .slice a7x x.names.length k7x, .I x.beg, .I x.fin])] ?_
 refine qG (sq 0 3) ?_
 refine qB .seq 3 (sq 1 3) #[.int .u64 x.client, .int .u64 x.seq, .I x.kind, .string x.key, .slice a4x x.data.length k4x, .I x.code, .slice a6x x.answer.length k6x, .slice a7x x.names.length k7x, .I x.beg, .I x.fin] 33 H ?_
 intro b1 w2 H
 refine qB .seq 4 (sq 2 3) #[.int .u64 0, .int .u64 0, .I 0, .string (⟨#[]⟩ : ByteArray), .slice none 0 0, .I 0, .slice none 0 0, .slice none 0 0, .I 0, .I 0] 33 H ?_
 intro b3 w4 H
 refine qF 1 [(0, .P mb 0), (3, .P b1 0), (4, .P b3 0)] ?_
 refine qR 1 [.c [1, 0], .c [2]] [(0, .P mb 0), (3, .P b1 0), (4, .P b3 0)] ?_
 refine qG (sq 0 2) ?_
 refine RW.new (κ := .seq) (d := some 10) (r := (sq 1 2)) (o := .cells #[.I 1, .I 2] 30 (0, 0)) (v := fun b => .slice (some ⟨b, 0, none⟩) 2 2) (fun b => by as_aux_lemma => kernel_rfl) (nofun) H ?_
 intro b5 w6 H
 refine qF 1 [(0, .P mb 0), (3, .P b1 0), (4, .P b3 0), (6, .slice (some ⟨b5, 0, none⟩) 2 2)] ?_
 refine qR 4 [.c [2, 0, 1, 0], .b 0, .c [3]] [(0, .P mb 0), (3, .P b1 0), (4, .P b3 0), (6, .slice (some ⟨b5, 0, none⟩) 2 2), (7, .I 0)] ?_
 refine WK.loop (α := Unit) (b := cd Tryd.prog 9 [2, 0, 1, 0, 0]) (by as_aux_lemma => kernel_rfl) (fun _ => [(0, .P mb 0), (3, .P b1 0), (4, .P b3 0), (6, .slice (some ⟨b5, 0, none⟩) 2 2), (7, .I 0)]) (fun _ w' => Hp w S [] [(b5, .cells #[.I 1, .I 2] 30 (0, 0)), (b3, .cells #[.int .u64 0, .int .u64 0, .I 0, .string (⟨#[]⟩ : ByteArray), .slice none 0 0, .I 0, .slice none 0 0, .slice none 0 0, .I 0, .I 0] 33 (0, 0)), (b1, .cells #[.int .u64 x.client, .int .u64 x.seq, .I x.kind, .string x.key, .slice a4x x.data.length k4x, .I x.code, .slice a6x x.answer.length k6x, .slice a7x x.names.length k7x, .I x.beg, .I x.fin] 33 (0, 0))] [] [Fc mb 0 [.slice al l.length cl], Rp (Shape.slice prsS) [.slice al l.length cl] l, Rp SB [.slice a4x x.data.length k4x] x.data, Rp SB [.slice a6x x.answer.length k6x] x.answer, Rp (Shape.slice Shape.str) [.slice a7x x.names.length k7x] x.names] w' ∧ True) (fun _ => 0) (()) ⟨H, trivial⟩ (rfl) ?_
 rintro _ w8 ⟨H, hinv0⟩ hback7
 refine qR 8 [.c [2, 0, 1, 0, 0, 1, 0, 0, 0], .c [2, 0, 1, 0, 0, 1, 0, 0, 1], .b 1, .c [2, 0, 1, 0, 0, 2], .l [2, 0, 1, 0, 0], .b 0, .c [3]] [(0, .P mb 0), (3, .P b1 0), (4, .P b3 0), (6, .slice (some ⟨b5, 0, none⟩) 2 2), (7, .I 0)] ?_
 refine qG (sq 0 6) ?_
 refine qP 3 (sq 3 6) [(0, .P mb 0), (3, .P b1 0), (4, .P b3 0), (6, .slice (some ⟨b5, 0, none⟩) 2 2), (7, .I 0), (17, .P b5 0)] ?_
 refine qL .seq 18 (sq 4 6) 30 b5 0 0 (.I 1) (H.cells 0 rfl) ?_
 refine qP 1 (sq 5 6) [(0, .P mb 0), (3, .P b1 0), (4, .P b3 0), (6, .slice (some ⟨b5, 0, none⟩) 2 2), (7, .I 0), (18, .I 1), (19, .P b1 5)] ?_
 refine qW 30 b1 5 (sq 6 6) (.I 1) [(b5, .cells #[.I 1, .I 2] 30 (0, 0)), (b3, .cells #[.int .u64 0, .int .u64 0, .I 0, .string (⟨#[]⟩ : ByteArray), .slice none 0 0, .I 0, .slice none 0 0, .slice none 0 0, .I 0, .I 0] 33 (0, 0)), (b1, .cells #[.int .u64 x.client, .int .u64 x.seq, .I x.kind, .string x.key, .slice a4x x.data.length k4x, .I 1, .slice a6x x.answer.length k6x, .slice a7x x.names.length k7x, .I x.beg, .I x.fin] 33 (0, 0))] H 2 rfl rfl ?_
 intro w9 H
 refine qF 0 [(0, .P mb 0), (3, .P b1 0), (4, .P b3 0), (6, .slice (some ⟨b5, 0, none⟩) 2 2), (7, .I 0)] ?_
 refine qR 1 [.c [2, 0, 1, 0, 0, 1, 0, 0, 1, 0], .c [2, 0, 1, 0, 0, 1, 0, 0, 2], .b 1, .c [2, 0, 1, 0, 0, 2], .l [2, 0, 1, 0, 0], .b 0, .c [3]] [(0, .P mb 0), (3, .P b1 0), (4, .P b3 0), (6, .slice (some ⟨b5, 0, none⟩) 2 2), (7, .I 0)] ?_
 refine qG (sq 0 8) ?_
 refine qP 1 (sq 1 8) [(0, .P mb 0), (3, .P b1 0), (4, .P b3 0), (6, .slice (some ⟨b5, 0, none⟩) 2 2), (7, .I 0), (21, .P mb 0)] ?_
 refine qL .seq 22 (sq 2 8) 33 b1 0 0 (.agg #[.int .u64 x.client, .int .u64 x.seq, .I x.kind, .string x.key, .slice a4x x.data.length k4x, .I 1, .slice a6x x.answer.length k6x, .slice a7x x.names.length k7x, .I x.beg, .I x.fin]) (H.cells 2 rfl) ?_
 refine qK .seq (some 23) (sq 3 8) 12 #[.P mb 0, .agg #[.int .u64 x.client, .int .u64 x.seq, .I x.kind, .string x.key, .slice a4x x.data.length k4x, .I 1, .slice a6x x.answer.length k6x, .slice a7x x.names.length k7x, .I x.beg, .I x.fin]] (rdo_spec (H.fact 0 rfl) (H.rp 1 rfl) (x := ⟨x.client, x.seq, x.kind, x.key, x.data, 1, x.answer, x.names, x.beg, x.fin⟩) (wop_mk (l0 := [.int .u64 x.client]) (y0 := x.client) (l1 := [.int .u64 x.seq]) (y1 := x.seq) (l2 := [.I x.kind]) (y2 := x.kind) (l3 := [.string x.key]) (y3 := x.key) (l4 := [.slice a4x x.data.length k4x]) (y4 := x.data) (l5 := [.I 1]) (y5 := 1) (l6 := [.slice a6x x.answer.length k6x]) (y6 := x.answer) (l7 := [.slice a7x x.names.length k7x]) (y7 := x.names) (l8 := [.I x.beg]) (y8 := x.beg) (l9 := [.I x.fin]) (y9 := x.fin) u64a u64a i64a ⟨rfl, h3x⟩ (H.rp 2 rfl) (Shape.int_mk (by decide)) (H.rp 3 rfl) (H.rp 4 rfl) i64a i64a) hk hf (.inl rfl) (by omega)) ?_
 rintro _ w10 - ⟨mb11, a12, c13, l14, rfl, hm15, hm16, H'⟩
 have H := H.back (M1 := []) (W1 := []) H'
 have H : Hp w S [] [(b5, .cells #[.I 1, .I 2] 30 (0, 0)), (b3, .cells #[.int .u64 0, .int .u64 0, .I 0, .string (⟨#[]⟩ : ByteArray), .slice none 0 0, .I 0, .slice none 0 0, .slice none 0 0, .I 0, .I 0] 33 (0, 0)), (b1, .cells #[.int .u64 x.client, .int .u64 x.seq, .I x.kind, .string x.key, .slice a4x x.data.length k4x, .I 1, .slice a6x x.answer.length k6x, .slice a7x x.names.length k7x, .I x.beg, .I x.fin] 33 (0, 0))] [] [Fc mb11 0 [.slice a12 l14.length c13], Rp (Shape.slice prsS) [.slice a12 l14.length c13] l14, Fc mb 0 [.slice al l.length cl], Rp (Shape.slice prsS) [.slice al l.length cl] l, Rp SB [.slice a4x x.data.length k4x] x.data, Rp SB [.slice a6x x.answer.length k6x] x.answer, Rp (Shape.slice Shape.str) [.slice a7x x.names.length k7x] x.names] _ := H
 refine qF 5 [(0, .P mb 0), (3, .P b1 0), (4, .P b3 0), (6, .slice (some ⟨b5, 0, none⟩) 2 2), (7, .I 0), (8, .P mb11 0), (9, .bool (doB (⟨x.client, x.seq, x.kind, x.key, x.data, 1, x.answer, x.names, x.beg, x.fin⟩) l))] ?_
 refine qR 2 [.c [2, 0, 1, 0, 0, 1, 0, 0, 3], .b 1, .c [2, 0, 1, 0, 0, 2], .l [2, 0, 1, 0, 0], .b 0, .c [3]] [(0, .P mb 0), (3, .P b1 0), (4, .P b3 0), (6, .slice (some ⟨b5, 0, none⟩) 2 2), (7, .I 0), (8, .P mb11 0), (26, .bool (doB (⟨x.client, x.seq, x.kind, x.key, x.data, 1, x.answer, x.names, x.beg, x.fin⟩) l))] ?_
 refine qC (doB (⟨x.client, x.seq, x.kind, x.key, x.data, 1, x.answer, x.names, x.beg, x.fin⟩) l) (fun h17 => ?_) (fun h17 => ?_)
 ·
  have h8 := h17
  refine qR 1 [.c [2, 0, 1, 0, 0, 1, 0, 0, 3, 0, 0], .c [2, 0, 1, 0, 0, 1, 0, 0, 3, 0, 1], .b 1, .c [2, 0, 1, 0, 0, 2], .l [2, 0, 1, 0, 0], .b 0, .c [3]] [(3, .P b1 0), (4, .P b3 0), (8, .P mb11 0)] ?_
  refine qG (sq 0 4) ?_
  refine qL .seq 27 (sq 1 4) 33 b1 0 0 (.agg #[.int .u64 x.client, .int .u64 x.seq, .I x.kind, .string x.key, .slice a4x x.data.length k4x, .I 1, .slice a6x x.answer.length k6x, .slice a7x x.names.length k7x, .I x.beg, .I x.fin]) (H.cells 2 rfl) ?_
  refine qP 1 (sq 2 4) [(4, .P b3 0), (27, .agg #[.int .u64 x.client, .int .u64 x.seq, .I x.kind, .string x.key, .slice a4x x.data.length k4x, .I 1, .slice a6x x.answer.length k6x, .slice a7x x.names.length k7x, .I x.beg, .I x.fin]), (28, .P mb11 0)] ?_
  refine qW 33 b3 0 (sq 3 4) (.agg #[.int .u64 x.client, .int .u64 x.seq, .I x.kind, .string x.key, .slice a4x x.data.length k4x, .I 1, .slice a6x x.answer.length k6x, .slice a7x x.names.length k7x, .I x.beg, .I x.fin]) [(b5, .cells #[.I 1, .I 2] 30 (0, 0)), (b3, .cells #[.int .u64 x.client, .int .u64 x.seq, .I x.kind, .string x.key, .slice a4x x.data.length k4x, .I 1, .slice a6x x.answer.length k6x, .slice a7x x.names.length k7x, .I x.beg, .I x.fin] 33 (0, 0)), (b1, .cells #[.int .u64 x.client, .int .u64 x.seq, .I x.kind, .string x.key, .slice a4x x.data.length k4x, .I 1, .slice a6x x.answer.length k6x, .slice a7x x.names.length k7x, .I x.beg, .I x.fin] 33 (0, 0))] H 1 rfl rfl ?_
  intro w18 H
  refine qF 1 [(4, .P b3 0), (5, .P mb11 0)] ?_
  refine qRB (.tuple #[.agg #[.int .u64 x.client, .int .u64 x.seq, .I x.kind, .string x.key, .slice a4x x.data.length k4x, .I 1, .slice a6x x.answer.length k6x, .slice a7x x.names.length k7x, .I x.beg, .I x.fin], .P mb11 0]) Tryd.func9 (v2 (.cell 4 33) (.tmp 5) (vC (H.cells 1 rfl)) vT) ?_
  have H := H.drop (M' := []) (W' := []) (List.nil_sublist _) (List.nil_sublist _)
  exact ⟨_, rfl, H.done, mb11, _, _, _, 1, rfl, told1 (y := { x with code := 1 }) hk rfl rfl rfl h8, hm15, hm16, H.pick [0, 1] rfl⟩
 ·
  have h7 := h17
  refine qR 3 [.l [2, 0, 1, 0, 0], .b 0, .c [3]] [(0, .P mb 0), (3, .P b1 0), (4, .P b3 0), (6, .slice (some ⟨b5, 0, none⟩) 2 2), (7, .I 1)] ?_
  refine WK.again ?_
  refine qR 8 [.c [2, 0, 1, 0, 0, 1, 0, 0, 0], .c [2, 0, 1, 0, 0, 1, 0, 0, 1], .b 1, .c [2, 0, 1, 0, 0, 2], .l [2, 0, 1, 0, 0], .b 0, .c [3]] [(0, .P mb 0), (3, .P b1 0), (4, .P b3 0), (6, .slice (some ⟨b5, 0, none⟩) 2 2), (7, .I 1)] ?_
  refine qG (sq 0 6) ?_
  refine qP 3 (sq 3 6) [(0, .P mb 0), (3, .P b1 0), (4, .P b3 0), (6, .slice (some ⟨b5, 0, none⟩) 2 2), (7, .I 1), (17, .P b5 1)] ?_
  refine qL .seq 18 (sq 4 6) 30 b5 1 1 (.I 2) (H.cells 0 rfl) ?_
  refine qP 1 (sq 5 6) [(0, .P mb 0), (3, .P b1 0), (4, .P b3 0), (6, .slice (some ⟨b5, 0, none⟩) 2 2), (7, .I 1), (18, .I 2), (19, .P b1 5)] ?_
  refine qW 30 b1 5 (sq 6 6) (.I 2) [(b5, .cells #[.I 1, .I 2] 30 (0, 0)), (b3, .cells #[.int .u64 0, .int .u64 0, .I 0, .string (⟨#[]⟩ : ByteArray), .slice none 0 0, .I 0, .slice none 0 0, .slice none 0 0, .I 0, .I 0] 33 (0, 0)), (b1, .cells #[.int .u64 x.client, .int .u64 x.seq, .I x.kind, .string x.key, .slice a4x x.data.length k4x, .I 2, .slice a6x x.answer.length k6x, .slice a7x x.names.length k7x, .I x.beg, .I x.fin] 33 (0, 0))] H 2 rfl rfl ?_
  intro w19 H
  refine qF 0 [(0, .P mb 0), (3, .P b1 0), (4, .P b3 0), (6, .slice (some ⟨b5, 0, none⟩) 2 2), (7, .I 1)] ?_
  refine qR 1 [.c [2, 0, 1, 0, 0, 1, 0, 0, 1, 0], .c [2, 0, 1, 0, 0, 1, 0, 0, 2], .b 1, .c [2, 0, 1, 0, 0, 2], .l [2, 0, 1, 0, 0], .b 0, .c [3]] [(0, .P mb 0), (3, .P b1 0), (4, .P b3 0), (6, .slice (some ⟨b5, 0, none⟩) 2 2), (7, .I 1)] ?_
  refine qG (sq 0 8) ?_
  refine qP 1 (sq 1 8) [(0, .P mb 0), (3, .P b1 0), (4, .P b3 0), (6, .slice (some ⟨b5, 0, none⟩) 2 2), (7, .I 1), (21, .P mb 0)] ?_
  refine qL .seq 22 (sq 2 8) 33 b1 0 0 (.agg #[.int .u64 x.client, .int .u64 x.seq, .I x.kind, .string x.key, .slice a4x x.data.length k4x, .I 2, .slice a6x x.answer.length k6x, .slice a7x x.names.length k7x, .I x.beg, .I x.fin]) (H.cells 2 rfl) ?_
  refine qK .seq (some 23) (sq 3 8) 12 #[.P mb 0, .agg #[.int .u64 x.client, .int .u64 x.seq, .I x.kind, .string x.key, .slice a4x x.data.length k4x, .I 2, .slice a6x x.answer.length k6x, .slice a7x x.names.length k7x, .I x.beg, .I x.fin]] (rdo_spec (H.fact 2 rfl) (H.rp 3 rfl) (x := ⟨x.client, x.seq, x.kind, x.key, x.data, 2, x.answer, x.names, x.beg, x.fin⟩) (wop_mk (l0 := [.int .u64 x.client]) (y0 := x.client) (l1 := [.int .u64 x.seq]) (y1 := x.seq) (l2 := [.I x.kind]) (y2 := x.kind) (l3 := [.string x.key]) (y3 := x.key) (l4 := [.slice a4x x.data.length k4x]) (y4 := x.data) (l5 := [.I 2]) (y5 := 2) (l6 := [.slice a6x x.answer.length k6x]) (y6 := x.answer) (l7 := [.slice a7x x.names.length k7x]) (y7 := x.names) (l8 := [.I x.beg]) (y8 := x.beg) (l9 := [.I x.fin]) (y9 := x.fin) u64a u64a i64a ⟨rfl, h3x⟩ (H.rp 4 rfl) (Shape.int_mk (by decide)) (H.rp 5 rfl) (H.rp 6 rfl) i64a i64a) hk hf (.inr rfl) (by omega)) ?_
  rintro _ w20 - ⟨mb21, a22, c23, l24, rfl, hm25, hm26, H'⟩
  have H := H.back (M1 := []) (W1 := []) H'
  have H : Hp w S [] [(b5, .cells #[.I 1, .I 2] 30 (0, 0)), (b3, .cells #[.int .u64 0, .int .u64 0, .I 0, .string (⟨#[]⟩ : ByteArray), .slice none 0 0, .I 0, .slice none 0 0, .slice none 0 0, .I 0, .I 0] 33 (0, 0)), (b1, .cells #[.int .u64 x.client, .int .u64 x.seq, .I x.kind, .string x.key, .slice a4x x.data.length k4x, .I 2, .slice a6x x.answer.length k6x, .slice a7x x.names.length k7x, .I x.beg, .I x.fin] 33 (0, 0))] [] [Fc mb21 0 [.slice a22 l24.length c23], Rp (Shape.slice prsS) [.slice a22 l24.length c23] l24, Fc mb11 0 [.slice a12 l14.length c13], Rp (Shape.slice prsS) [.slice a12 l14.length c13] l14, Fc mb 0 [.slice al l.length cl], Rp (Shape.slice prsS) [.slice al l.length cl] l, Rp SB [.slice a4x x.data.length k4x] x.data, Rp SB [.slice a6x x.answer.length k6x] x.answer, Rp (Shape.slice Shape.str) [.slice a7x x.names.length k7x] x.names] _ := H
  refine qF 5 [(0, .P mb 0), (3, .P b1 0), (4, .P b3 0), (6, .slice (some ⟨b5, 0, none⟩) 2 2), (7, .I 1), (8, .P mb21 0), (9, .bool (doB (⟨x.client, x.seq, x.kind, x.key, x.data, 2, x.answer, x.names, x.beg, x.fin⟩) l))] ?_
  refine qR 2 [.c [2, 0, 1, 0, 0, 1, 0, 0, 3], .b 1, .c [2, 0, 1, 0, 0, 2], .l [2, 0, 1, 0, 0], .b 0, .c [3]] [(0, .P mb 0), (3, .P b1 0), (4, .P b3 0), (6, .slice (some ⟨b5, 0, none⟩) 2 2), (7, .I 1), (8, .P mb21 0), (26, .bool (doB (⟨x.client, x.seq, x.kind, x.key, x.data, 2, x.answer, x.names, x.beg, x.fin⟩) l))] ?_
  refine qC (doB (⟨x.client, x.seq, x.kind, x.key, x.data, 2, x.answer, x.names, x.beg, x.fin⟩) l) (fun h27 => ?_) (fun h27 => ?_)
  ·
   have h8 := h27
   have htold := told2 hk rfl rfl rfl (by simpa using h7) rfl rfl rfl (z := { x with code := 2 }) (y := { x with code := 1 })
   refine qR 1 [.c [2, 0, 1, 0, 0, 1, 0, 0, 3, 0, 0], .c [2, 0, 1, 0, 0, 1, 0, 0, 3, 0, 1], .b 1, .c [2, 0, 1, 0, 0, 2], .l [2, 0, 1, 0, 0], .b 0, .c [3]] [(3, .P b1 0), (4, .P b3 0), (8, .P mb21 0)] ?_
   refine qG (sq 0 4) ?_
   refine qL .seq 27 (sq 1 4) 33 b1 0 0 (.agg #[.int .u64 x.client, .int .u64 x.seq, .I x.kind, .string x.key, .slice a4x x.data.length k4x, .I 2, .slice a6x x.answer.length k6x, .slice a7x x.names.length k7x, .I x.beg, .I x.fin]) (H.cells 2 rfl) ?_
   refine qP 1 (sq 2 4) [(4, .P b3 0), (27, .agg #[.int .u64 x.client, .int .u64 x.seq, .I x.kind, .string x.key, .slice a4x x.data.length k4x, .I 2, .slice a6x x.answer.length k6x, .slice a7x x.names.length k7x, .I x.beg, .I x.fin]), (28, .P mb21 0)] ?_
   refine qW 33 b3 0 (sq 3 4) (.agg #[.int .u64 x.client, .int .u64 x.seq, .I x.kind, .string x.key, .slice a4x x.data.length k4x, .I 2, .slice a6x x.answer.length k6x, .slice a7x x.names.length k7x, .I x.beg, .I x.fin]) [(b5, .cells #[.I 1, .I 2] 30 (0, 0)), (b3, .cells #[.int .u64 x.client, .int .u64 x.seq, .I x.kind, .string x.key, .slice a4x x.data.length k4x, .I 2, .slice a6x x.answer.length k6x, .slice a7x x.names.length k7x, .I x.beg, .I x.fin] 33 (0, 0)), (b1, .cells #[.int .u64 x.client, .int .u64 x.seq, .I x.kind, .string x.key, .slice a4x x.data.length k4x, .I 2, .slice a6x x.answer.length k6x, .slice a7x x.names.length k7x, .I x.beg, .I x.fin] 33 (0, 0))] H 1 rfl rfl ?_
   intro w28 H
   refine qF 1 [(4, .P b3 0), (5, .P mb21 0)] ?_
   refine qRB (.tuple #[.agg #[.int .u64 x.client, .int .u64 x.seq, .I x.kind, .string x.key, .slice a4x x.data.length k4x, .I 2, .slice a6x x.answer.length k6x, .slice a7x x.names.length k7x, .I x.beg, .I x.fin], .P mb21 0]) Tryd.func9 (v2 (.cell 4 33) (.tmp 5) (vC (H.cells 1 rfl)) vT) ?_
   have H := H.drop (M' := []) (W' := []) (List.nil_sublist _) (List.nil_sublist _)
   exact ⟨_, rfl, H.done, mb21, _, _, _, 2, rfl, htold.1, hm25, hm26, H.pick [0, 1] rfl⟩
  ·
   have htold := told2 hk rfl rfl rfl (by simpa using h7) rfl rfl rfl (z := { x with code := 2 }) (y := { x with code := 1 })
   exact absurd htold.2 (by rw [h27]; decide)
set_option maxHeartbeats 8000000 in
theorem knows_spec {S : Nat → Prop} {w : World} {keys : List ByteArray} {datas : List (List (BitVec 8))} {longer : List Int} {ak ad aw : Option Addr} {ck cq cw : Nat} (hK : (Shape.slice Shape.str).rep S w [.slice ak keys.length ck] keys) (hD : (Shape.slice SB).rep S w [.slice ad datas.length cq] datas) (hL : (Shape.slice (Shape.int .i64)).rep S w [.slice aw longer.length cw] longer) (op : Int) (hKz : ∀ x ∈ keys, x.size ≤ 1048576) (hDz : ∀ x ∈ datas, x.length ≤ 1048576) (hq : (Fz tabsQ).p S w) :
 Calls Tryd.prog 5 #[.slice ak keys.length ck, .slice ad datas.length cq, .slice aw longer.length cw, .I op] w (Ret fun v w' => Ext w w' ∧ v = .bool true) := by
 have hlenk := Shape.slice_len hK
 have hlend := Shape.slice_len hD
 have hlenl := Shape.slice_len hL
 refine qS (fn := Tryd.f5) (n := 136) (σ := [(0, .slice ak keys.length ck), (1, .slice ad datas.length cq), (2, .slice aw longer.length cw), (3, .I op)]) Tryd.func5 ?_
 have H := Hp.startF (w := w) (S := S) (G := [Rp (Shape.slice Shape.str) [.slice ak keys.length ck] keys, Rp (Shape.slice SB) [.slice ad datas.length cq] datas, Rp (Shape.slice (Shape.int .i64)) [.slice aw longer.length cw] longer, Fz tabsQ]) (.rp hK (.rp hD (.rp hL (.cons hq .nil))))
 refine qR 4 [.c [1, 0, 0], .c [1, 0, 1], .c [2]] [(0, .slice ak keys.length ck), (1, .slice ad datas.length cq), (2, .slice aw longer.length cw), (3, .I op)] ?_
 refine WK.joinV (α := Bool) (fun x_ w_ => match x_ with | g0 => Hp w S [] [] [] [Rp (Shape.slice Shape.str) [.slice ak keys.length ck] keys, Rp (Shape.slice SB) [.slice ad datas.length cq] datas, Rp (Shape.slice (Shape.int .i64)) [.slice aw longer.length cw] longer, Fz tabsQ] w_ ∧ (g0 = true ↔ ¬ (keys.length ≤ 10 ∧ keys.length ≤ datas.length ∧ keys.length ≤ longer.length))) (fun x_ => match x_ with | g0 => [(0, .slice ak keys.length ck), (1, .slice ad datas.length cq), (2, .slice aw longer.length cw), (3, .I op), (36, .bool g0)]) [Cq Tryd.prog 5 [1, 0, 1], Cq Tryd.prog 5 [2]] (fun hJ1 => ?_) ?_
 ·
  refine qG (sq 0 17) ?_
  refine qP 4 (sq 4 17) [(0, .slice ak keys.length ck), (1, .slice ad datas.length cq), (2, .slice aw longer.length cw), (3, .I op), (23, .bool (decide ((((keys.length : Nat) : Int) : Int) > 10)))] ?_
  refine tD (fun b_ => [(0, .slice ak keys.length ck), (1, .slice ad datas.length cq), (2, .slice aw longer.length cw), (3, .I op), (23, .bool b_)]) ((((keys.length : Nat) : Int) : Int) > 10) (fun h3 => ?_) (fun h3 => ?_)
  ·
   refine qF 13 [(0, .slice ak keys.length ck), (1, .slice ad datas.length cq), (2, .slice aw longer.length cw), (3, .I op), (36, .bool true)] ?_
   exact hJ1 (true) _ ⟨H, ⟨fun _ => by first | omega | (simp_all; done), fun _ => rfl⟩⟩
  ·
   refine qP 7 (sq 11 17) [(0, .slice ak keys.length ck), (1, .slice ad datas.length cq), (2, .slice aw longer.length cw), (3, .I op), (30, .bool (decide ((((datas.length : Nat) : Int) : Int) < ((keys.length : Nat) : Int))))] ?_
   refine tD (fun b_ => [(0, .slice ak keys.length ck), (1, .slice ad datas.length cq), (2, .slice aw longer.length cw), (3, .I op), (30, .bool b_)]) ((((datas.length : Nat) : Int) : Int) < ((keys.length : Nat) : Int)) (fun h4 => ?_) (fun h4 => ?_)
   ·
    refine qF 6 [(0, .slice ak keys.length ck), (1, .slice ad datas.length cq), (2, .slice aw longer.length cw), (3, .I op), (36, .bool true)] ?_
    exact hJ1 (true) _ ⟨H, ⟨fun _ => by first | omega | (simp_all; done), fun _ => rfl⟩⟩
   ·
    refine qF 6 [(0, .slice ak keys.length ck), (1, .slice ad datas.length cq), (2, .slice aw longer.length cw), (3, .I op), (36, .bool (decide ((((longer.length : Nat) : Int) : Int) < ((keys.length : Nat) : Int))))] ?_
    exact hJ1 (decide ((((longer.length : Nat) : Int) : Int) < ((keys.length : Nat) : Int))) _ ⟨H, by first | (simp only [decide_eq_true_iff, Bool.not_eq_true', decide_eq_false_iff_not, Bool.not_eq_true, bne_iff_ne, beq_iff_eq, ne_eq]; omega) | (simp_all; done) | (simp_all; omega)⟩
 ·
  rintro g0 w2 ⟨H, hg0⟩
  refine qC g0 (fun h5 => ?_) (fun h5 => ?_)
  ·
   refine qR 1 [.c [1, 0, 1, 0, 0], .c [1, 0, 1, 0, 1], .c [2]] [] ?_
   refine qG (sq 0 2) ?_
   refine qK .seq (some 37) (sq 1 2) 8 #[] (heads_spec (H.fact 3 rfl)) ?_
   rintro _ w6 hE7 rfl
   have H := H.ext hE7
   refine qF 1 [(8, .bool true)] ?_
   refine qT (.bool true) Tryd.func5 ?_
   exact ⟨_, rfl, H.done, rfl⟩
  ·
   have hg : keys.length ≤ 10 ∧ keys.length ≤ datas.length ∧ keys.length ≤ longer.length := Decidable.not_not.1 fun q => absurd (hg0.2 q) (by simp [*])
   refine qR 2 [.c [2, 0], .c [3]] [(0, .slice ak keys.length ck), (1, .slice ad datas.length cq), (2, .slice aw longer.length cw), (3, .I op)] ?_
   refine qG (sq 0 3) ?_
   refine qP 1 (sq 1 3) [(0, .slice ak keys.length ck), (1, .slice ad datas.length cq), (2, .slice aw longer.length cw), (3, .I op), (38, .agg #[.slice none 0 0])] ?_
   refine qB .seq 39 (sq 2 3) #[.slice none 0 0] 40 H ?_
   intro b8 w9 H
   refine qF 1 [(0, .slice ak keys.length ck), (1, .slice ad datas.length cq), (2, .slice aw longer.length cw), (3, .I op), (9, .P b8 0)] ?_
   refine qR 8 [.c [5, 0, 1, 0], .b 0, .c [6]] [(0, .slice ak keys.length ck), (1, .slice ad datas.length cq), (2, .slice aw longer.length cw), (3, .I op), (9, .P b8 0), (10, .slice none 0 0), (11, .slice none 0 0), (12, .I 0)] ?_
   have H := H.freezeM
   have H := H.addRp (Shape.slice prsS) [.slice none 0 0] [] Shape.slice_nil
   have H : Hp w S [] [] [] [Rp (Shape.slice prsS) [.slice none ([] : List Prs).length 0] ([] : List Prs), Fc b8 0 [.slice none ([] : List Prs).length 0], Rp (Shape.slice Shape.str) [.slice ak keys.length ck] keys, Rp (Shape.slice SB) [.slice ad datas.length cq] datas, Rp (Shape.slice (Shape.int .i64)) [.slice aw longer.length cw] longer, Fz tabsQ] _ := H
   have H := H.ownNil (Shape.int .i64) 3
   have H := H.ownNil wopS 33
   have H := H.drop (M' := []) (W' := [⟨wopS, 33, .slice none (hisK keys datas longer op 0).length 0, hisK keys datas longer op 0⟩, ⟨(Shape.int .i64), 3, .slice none ((li (List.range 0)).length) 0, li (List.range 0)⟩]) (by repeat (first | exact List.Sublist.refl _ | exact List.nil_sublist _ | apply List.Sublist.cons_cons | apply List.Sublist.cons)) (by repeat (first | exact List.Sublist.refl _ | exact List.nil_sublist _ | apply List.Sublist.cons_cons | apply List.Sublist.cons))
   refine WK.loop (α := Nat × Nat × Option Addr × Nat × List Prs × Option Addr × Nat × Option Addr × Nat) (b := cd Tryd.prog 5 [5, 0, 1, 0, 0]) (by as_aux_lemma => kernel_rfl) (fun st_ => match st_ with | (k, mb, al, cl, l, ah, ch, ao, co) => [(0, .slice ak keys.length ck), (1, .slice ad datas.length cq), (2, .slice aw longer.length cw), (3, .I op), (9, .P mb 0), (10, .slice ah (hisK keys datas longer op k).length ch), (11, .slice ao ((li (List.range k)).length) co), (12, .I k)]) (fun st_ w' => match st_ with | (k, mb, al, cl, l, ah, ch, ao, co) => Hp w S [] [] [⟨wopS, 33, .slice ah (hisK keys datas longer op k).length ch, hisK keys datas longer op k⟩, ⟨(Shape.int .i64), 3, .slice ao ((li (List.range k)).length) co, li (List.range k)⟩] [Rp (Shape.slice prsS) [.slice al l.length cl] l, Fc mb 0 [.slice al l.length cl], Rp (Shape.slice Shape.str) [.slice ak keys.length ck] keys, Rp (Shape.slice SB) [.slice ad datas.length cq] datas, Rp (Shape.slice (Shape.int .i64)) [.slice aw longer.length cw] longer, Fz tabsQ] w' ∧ k ≤ keys.length ∧ l.length ≤ k ∧ ∀ q, hasB l q = (tget (tbK keys datas longer k) q).isSome) (fun st_ => match st_ with | (k, mb, al, cl, l, ah, ch, ao, co) => keys.length - k) (0, b8, none, 0, ([] : List Prs), none, 0, none, 0) ⟨H, Nat.zero_le _, Nat.le_refl _, fun q => rfl⟩ (rfl) ?_
   rintro ⟨k, mb, al, cl, l, ah, ch, ao, co⟩ w11 ⟨H, hinv0⟩ hback10
   refine qR 3 [.c [5, 0, 1, 0, 0, 0, 1], .c [5, 0, 1, 0, 0, 1], .l [5, 0, 1, 0, 0], .b 0, .c [6]] [(0, .slice ak keys.length ck), (1, .slice ad datas.length cq), (2, .slice aw longer.length cw), (3, .I op), (9, .P mb 0), (10, .slice ah (hisK keys datas longer op k).length ch), (11, .slice ao ((li (List.range k)).length) co), (12, .I k), (43, .bool (decide (((k : Int) : Int) < ((keys.length : Nat) : Int))))] ?_
   refine qD (((k : Int) : Int) < ((keys.length : Nat) : Int)) (fun h12 => ?_) (fun h12 => ?_)
   ·
    have hk1 : k < keys.length := by omega
    have hkd : k < datas.length := by omega
    have hkl : k < longer.length := by omega
    refine qR 4 [.c [5, 0, 1, 0, 0, 1, 0, 0, 0], .c [5, 0, 1, 0, 0, 1, 0, 0, 1], .b 1, .c [5, 0, 1, 0, 0, 2], .l [5, 0, 1, 0, 0], .b 0, .c [6]] [(0, .slice ak keys.length ck), (1, .slice ad datas.length cq), (2, .slice aw longer.length cw), (3, .I op), (9, .P mb 0), (10, .slice ah (hisK keys datas longer op k).length ch), (11, .slice ao ((li (List.range k)).length) co), (12, .I k)] ?_
    refine WK.draw1 19 [(0, .qui), (1, .qui), (2, .qui), (3, .qui), (4, .qui), (5, .qui), (6, .qui), (7, .qui), (8, .qui), (9, .qui), (10, .qui), (11, .qui), (12, .qui), (13, .qui), (14, .qui), (15, .qui), (16, .qui), (17, .qui), (18, .chn)] [(0, .qui), (1, .qui), (2, .qui), (3, .qui), (4, .qui), (5, .qui), (6, .qui), (7, .qui), (8, .qui), (9, .qui), (10, .qui), (11, .qui), (12, .qui), (13, .qui), (14, .qui), (15, .qui), (16, .qui), (17, .qui), (18, .chn), (19, .seq)] Tryd_mixed (by as_aux_lemma => kernel_rfl) (by as_aux_lemma => kernel_rfl) (by as_aux_lemma => kernel_rfl) ?_
    have H := H.draw
    generalize ({ w11 with drawn := w11.drawn + 1 } : World) = w13 at H ⊢
    refine qP 1 [(1, .qui), (2, .qui), (3, .qui), (4, .qui), (5, .qui), (6, .qui), (7, .qui), (8, .qui), (9, .qui), (10, .qui), (11, .qui), (12, .qui), (13, .qui), (14, .qui), (15, .qui), (16, .qui), (17, .qui), (18, .chn), (19, .seq)] [(0, .slice ak keys.length ck), (1, .slice ad datas.length cq), (2, .slice aw longer.length cw), (3, .I op), (9, .P mb 0), (10, .slice ah (hisK keys datas longer op k).length ch), (11, .slice ao ((li (List.range k)).length) co), (12, .I k), (46, .I k)] ?_
    refine qI .qui 47 [(2, .qui), (3, .qui), (4, .qui), (5, .qui), (6, .qui), (7, .qui), (8, .qui), (9, .qui), (10, .qui), (11, .qui), (12, .qui), (13, .qui), (14, .qui), (15, .qui), (16, .qui), (17, .qui), (18, .chn), (19, .seq)] ((k : Int) + 1) ?_
    refine RW.pv (κ := .qui) (d := some 48) (r := [(3, .qui), (4, .qui), (5, .qui), (6, .qui), (7, .qui), (8, .qui), (9, .qui), (10, .qui), (11, .qui), (12, .qui), (13, .qui), (14, .qui), (15, .qui), (16, .qui), (17, .qui), (18, .chn), (19, .seq)]) (v := .int .u64 (IntKind.u64.wrap ((k : Int) + 1))) (v' := .int .u64 ((k : Int) + 1)) (by as_aux_lemma => kernel_rfl) (wr_u64 (by omega)) ?_
    refine qP 2 [(5, .qui), (6, .qui), (7, .qui), (8, .qui), (9, .qui), (10, .qui), (11, .qui), (12, .qui), (13, .qui), (14, .qui), (15, .qui), (16, .qui), (17, .qui), (18, .chn), (19, .seq)] [(0, .slice ak keys.length ck), (1, .slice ad datas.length cq), (2, .slice aw longer.length cw), (3, .I op), (9, .P mb 0), (10, .slice ah (hisK keys datas longer op k).length ch), (11, .slice ao ((li (List.range k)).length) co), (12, .I k), (48, .int .u64 ((k : Int) + 1)), (49, .slice ak keys.length ck), (50, .I k)] ?_
    have hx14 : k < keys.length := by omega
    refine qX .qui 51 [(6, .qui), (7, .qui), (8, .qui), (9, .qui), (10, .qui), (11, .qui), (12, .qui), (13, .qui), (14, .qui), (15, .qui), (16, .qui), (17, .qui), (18, .chn), (19, .seq)] 31 9 (k : Int) Shape.str (keys[k]) H 2 rfl k (by omega) (List.getElem?_eq_getElem hx14) ?_
    intro b15 o16 es17 hr18 H
    obtain ⟨rfl, hshr18⟩ := hr18
    refine qL .qui 52 [(7, .qui), (8, .qui), (9, .qui), (10, .qui), (11, .qui), (12, .qui), (13, .qui), (14, .qui), (15, .qui), (16, .qui), (17, .qui), (18, .chn), (19, .seq)] 9 b15 o16 0 (.string (keys[k])) (H.fc 0 rfl) ?_
    refine qP 2 [(9, .qui), (10, .qui), (11, .qui), (12, .qui), (13, .qui), (14, .qui), (15, .qui), (16, .qui), (17, .qui), (18, .chn), (19, .seq)] [(0, .slice ak keys.length ck), (1, .slice ad datas.length cq), (2, .slice aw longer.length cw), (3, .I op), (9, .P mb 0), (10, .slice ah (hisK keys datas longer op k).length ch), (11, .slice ao ((li (List.range k)).length) co), (12, .I k), (48, .int .u64 ((k : Int) + 1)), (52, .string (keys[k])), (53, .slice ad datas.length cq), (54, .I k)] ?_
    have hx19 : k < datas.length := by omega
    refine qX .qui 55 [(10, .qui), (11, .qui), (12, .qui), (13, .qui), (14, .qui), (15, .qui), (16, .qui), (17, .qui), (18, .chn), (19, .seq)] 35 29 (k : Int) SB (datas[k]) H 4 rfl k (by omega) (List.getElem?_eq_getElem hx19) ?_
    intro b20 o21 es22 hr23 H
    obtain ⟨a24, k25, rfl⟩ := Shape.slice_form' hr23
    have H := H.add (F := Rp SB [.slice a24 (datas[k]).length k25] (datas[k])) hr23
    refine qL .qui 56 [(11, .qui), (12, .qui), (13, .qui), (14, .qui), (15, .qui), (16, .qui), (17, .qui), (18, .chn), (19, .seq)] 29 b20 o21 0 (.slice a24 (datas[k]).length k25) (H.fc 1 rfl) ?_
    refine qP 1 [(12, .qui), (13, .qui), (14, .qui), (15, .qui), (16, .qui), (17, .qui), (18, .chn), (19, .seq)] [(0, .slice ak keys.length ck), (1, .slice ad datas.length cq), (2, .slice aw longer.length cw), (3, .I op), (9, .P mb 0), (10, .slice ah (hisK keys datas longer op k).length ch), (11, .slice ao ((li (List.range k)).length) co), (12, .I k), (48, .int .u64 ((k : Int) + 1)), (52, .string (keys[k])), (56, .slice a24 (datas[k]).length k25), (57, .I k)] ?_
    refine qI .qui 58 [(13, .qui), (14, .qui), (15, .qui), (16, .qui), (17, .qui), (18, .chn), (19, .seq)] (10 * (k : Int)) ?_
    refine qI .qui 59 [(14, .qui), (15, .qui), (16, .qui), (17, .qui), (18, .chn), (19, .seq)] ((10 * (k : Int)) + 100) ?_
    refine qP 1 [(15, .qui), (16, .qui), (17, .qui), (18, .chn), (19, .seq)] [(0, .slice ak keys.length ck), (1, .slice ad datas.length cq), (2, .slice aw longer.length cw), (3, .I op), (9, .P mb 0), (10, .slice ah (hisK keys datas longer op k).length ch), (11, .slice ao ((li (List.range k)).length) co), (12, .I k), (48, .int .u64 ((k : Int) + 1)), (52, .string (keys[k])), (56, .slice a24 (datas[k]).length k25), (59, .I ((10 * (k : Int)) + 100)), (60, .I k)] ?_
    refine qI .qui 61 [(16, .qui), (17, .qui), (18, .chn), (19, .seq)] (10 * (k : Int)) ?_
    refine qI .qui 62 [(17, .qui), (18, .chn), (19, .seq)] ((10 * (k : Int)) + 105) ?_
    refine qP 1 [(18, .chn), (19, .seq)] [(0, .slice ak keys.length ck), (1, .slice ad datas.length cq), (2, .slice aw longer.length cw), (3, .I op), (9, .P mb 0), (10, .slice ah (hisK keys datas longer op k).length ch), (11, .slice ao ((li (List.range k)).length) co), (12, .I k), (63, .agg #[.int .u64 ((k : Int) + 1), .int .u64 0, .I 1, .string (keys[k]), .slice a24 (datas[k]).length k25, .I 0, .slice none 0 0, .slice none 0 0, .I ((10 * (k : Int)) + 100), .I ((10 * (k : Int)) + 105)])] ?_
    refine qB .chn 13 [(19, .seq)] #[.int .u64 0, .int .u64 0, .I 0, .string (⟨#[]⟩ : ByteArray), .slice none 0 0, .I 0, .slice none 0 0, .slice none 0 0, .I 0, .I 0] 33 H ?_
    intro b26 w27 H
    refine qW 33 b26 0 [] (.agg #[.int .u64 ((k : Int) + 1), .int .u64 0, .I 1, .string (keys[k]), .slice a24 (datas[k]).length k25, .I 0, .slice none 0 0, .slice none 0 0, .I ((10 * (k : Int)) + 100), .I ((10 * (k : Int)) + 105)]) [(b26, .cells #[.int .u64 ((k : Int) + 1), .int .u64 0, .I 1, .string (keys[k]), .slice a24 (datas[k]).length k25, .I 0, .slice none 0 0, .slice none 0 0, .I ((10 * (k : Int)) + 100), .I ((10 * (k : Int)) + 105)] 33 (0, 0))] H 0 rfl rfl ?_
    intro w28 H
    refine qF 0 [(0, .slice ak keys.length ck), (1, .slice ad datas.length cq), (2, .slice aw longer.length cw), (3, .I op), (9, .P mb 0), (10, .slice ah (hisK keys datas longer op k).length ch), (11, .slice ao ((li (List.range k)).length) co), (12, .I k), (13, .P b26 0)] ?_
    refine qR 2 [.c [5, 0, 1, 0, 0, 1, 0, 0, 1, 0, 0], .c [5, 0, 1, 0, 0, 1, 0, 0, 1, 0, 1], .c [5, 0, 1, 0, 0, 1, 0, 0, 2], .b 1, .c [5, 0, 1, 0, 0, 2], .l [5, 0, 1, 0, 0], .b 0, .c [6]] [(0, .slice ak keys.length ck), (1, .slice ad datas.length cq), (2, .slice aw longer.length cw), (3, .I op), (9, .P mb 0), (10, .slice ah (hisK keys datas longer op k).length ch), (11, .slice ao ((li (List.range k)).length) co), (12, .I k), (13, .P b26 0)] ?_
    refine qG (sq 0 6) ?_
    refine qP 2 (sq 2 6) [(0, .slice ak keys.length ck), (1, .slice ad datas.length cq), (2, .slice aw longer.length cw), (3, .I op), (9, .P mb 0), (10, .slice ah (hisK keys datas longer op k).length ch), (11, .slice ao ((li (List.range k)).length) co), (12, .I k), (13, .P b26 0), (64, .slice ad datas.length cq), (65, .I k)] ?_
    have hx29 : k < datas.length := by omega
    refine qX .seq 66 (sq 3 6) 35 29 (k : Int) SB (datas[k]) H 6 rfl k (by omega) (List.getElem?_eq_getElem hx29) ?_
    intro b30 o31 es32 hr33 H
    obtain ⟨a34, k35, rfl⟩ := Shape.slice_form' hr33
    have H := H.add (F := Rp SB [.slice a34 (datas[k]).length k35] (datas[k])) hr33
    refine qL .seq 67 (sq 4 6) 29 b30 o31 0 (.slice a34 (datas[k]).length k35) (H.fc 1 rfl) ?_
    refine qF 2 [(0, .slice ak keys.length ck), (1, .slice ad datas.length cq), (2, .slice aw longer.length cw), (3, .I op), (9, .P mb 0), (10, .slice ah (hisK keys datas longer op k).length ch), (11, .slice ao ((li (List.range k)).length) co), (12, .I k), (13, .P b26 0), (69, .bool ((((datas[k]).length : Nat) : Int) == 0))] ?_
    refine qE (((datas[k]).length : Nat) : Int) 0 (fun h36 => ?_) (fun h36 => ?_)
    ·
     have hde : datas[k] = [] := List.eq_nil_of_length_eq_zero (by omega)
     refine qG (sq 0 2) ?_
     refine qP 1 (sq 1 2) [(0, .slice ak keys.length ck), (1, .slice ad datas.length cq), (2, .slice aw longer.length cw), (3, .I op), (9, .P mb 0), (10, .slice ah (hisK keys datas longer op k).length ch), (11, .slice ao ((li (List.range k)).length) co), (12, .I k), (13, .P b26 0), (70, .P b26 2)] ?_
     refine qW 28 b26 2 (sq 2 2) (.I 3) [(b26, .cells #[.int .u64 ((k : Int) + 1), .int .u64 0, .I 3, .string (keys[k]), .slice a24 (datas[k]).length k25, .I 0, .slice none 0 0, .slice none 0 0, .I ((10 * (k : Int)) + 100), .I ((10 * (k : Int)) + 105)] 33 (0, 0))] H 0 rfl rfl ?_
     intro w37 H
     refine qF 0 [(0, .slice ak keys.length ck), (1, .slice ad datas.length cq), (2, .slice aw longer.length cw), (3, .I op), (9, .P mb 0), (10, .slice ah (hisK keys datas longer op k).length ch), (11, .slice ao ((li (List.range k)).length) co), (12, .I k), (13, .P b26 0)] ?_
     refine qR 1 [.c [5, 0, 1, 0, 0, 1, 0, 0, 2, 0], .c [5, 0, 1, 0, 0, 1, 0, 0, 3], .b 1, .c [5, 0, 1, 0, 0, 2], .l [5, 0, 1, 0, 0], .b 0, .c [6]] [(0, .slice ak keys.length ck), (1, .slice ad datas.length cq), (2, .slice aw longer.length cw), (3, .I op), (9, .P mb 0), (10, .slice ah (hisK keys datas longer op k).length ch), (11, .slice ao ((li (List.range k)).length) co), (12, .I k), (13, .P b26 0)] ?_
     refine qG (sq 0 8) ?_
     refine qP 1 (sq 1 8) [(0, .slice ak keys.length ck), (1, .slice ad datas.length cq), (2, .slice aw longer.length cw), (3, .I op), (9, .P mb 0), (10, .slice ah (hisK keys datas longer op k).length ch), (11, .slice ao ((li (List.range k)).length) co), (12, .I k), (13, .P b26 0), (72, .P mb 0)] ?_
     refine qL .seq 73 (sq 2 8) 33 b26 0 0 (.agg #[.int .u64 ((k : Int) + 1), .int .u64 0, .I 3, .string (keys[k]), .slice a24 (datas[k]).length k25, .I 0, .slice none 0 0, .slice none 0 0, .I ((10 * (k : Int)) + 100), .I ((10 * (k : Int)) + 105)]) (H.cells 0 rfl) ?_
     refine qK .seq (some 74) (sq 3 8) 9 #[.P mb 0, .agg #[.int .u64 ((k : Int) + 1), .int .u64 0, .I 3, .string (keys[k]), .slice a24 (datas[k]).length k25, .I 0, .slice none 0 0, .slice none 0 0, .I ((10 * (k : Int)) + 100), .I ((10 * (k : Int)) + 105)]] (told_spec (H.fact 6 rfl) (H.rp 5 rfl) (x := ⟨(k : Int) + 1, 0, 3, keys[k], datas[k], 0, [], [], (10 * (k : Int)) + 100, (10 * (k : Int)) + 105⟩) (wop_mk (l0 := [.int .u64 ((k : Int) + 1)]) (y0 := (k : Int) + 1) (l1 := [.int .u64 0]) (y1 := 0) (l2 := [.I 3]) (y2 := 3) (l3 := [.string (keys[k])]) (y3 := keys[k]) (l4 := [.slice a24 (datas[k]).length k25]) (y4 := datas[k]) (l5 := [.I 0]) (y5 := 0) (l6 := [.slice none 0 0]) (y6 := []) (l7 := [.slice none 0 0]) (y7 := []) (l8 := [.I ((10 * (k : Int)) + 100)]) (y8 := (10 * (k : Int)) + 100) (l9 := [.I ((10 * (k : Int)) + 105)]) (y9 := (10 * (k : Int)) + 105) u64a (Shape.int_mk (by decide)) (Shape.int_mk (by decide)) ⟨rfl, hshr18⟩ (H.rp 2 rfl) (Shape.int_mk (by decide)) Shape.slice_nil Shape.slice_nil i64a i64a) (.inr rfl) (show ((10 * (k : Int)) + 105 : Int) ≠ 0 by omega) (by omega)) ?_
     rintro _ w38 - ⟨mb40, a41, c42, l43, cd39, rfl, hm44, hm45, hm46, H'⟩
     have H := H.back (M1 := []) (W1 := []) H'
     have H : Hp w S [] [(b26, .cells #[.int .u64 ((k : Int) + 1), .int .u64 0, .I 3, .string (keys[k]), .slice a24 (datas[k]).length k25, .I 0, .slice none 0 0, .slice none 0 0, .I ((10 * (k : Int)) + 100), .I ((10 * (k : Int)) + 105)] 33 (0, 0))] [⟨wopS, 33, .slice ah (hisK keys datas longer op k).length ch, hisK keys datas longer op k⟩, ⟨(Shape.int .i64), 3, .slice ao ((li (List.range k)).length) co, li (List.range k)⟩] [Fc mb40 0 [.slice a41 l43.length c42], Rp (Shape.slice prsS) [.slice a41 l43.length c42] l43, Rp SB [.slice a34 (datas[k]).length k35] (datas[k]), Fc b30 o31 [.slice a34 (datas[k]).length k35], Rp SB [.slice a24 (datas[k]).length k25] (datas[k]), Fc b20 o21 [.slice a24 (datas[k]).length k25], Fc b15 o16 [.string (keys[k])], Rp (Shape.slice prsS) [.slice al l.length cl] l, Fc mb 0 [.slice al l.length cl], Rp (Shape.slice Shape.str) [.slice ak keys.length ck] keys, Rp (Shape.slice SB) [.slice ad datas.length cq] datas, Rp (Shape.slice (Shape.int .i64)) [.slice aw longer.length cw] longer, Fz tabsQ] _ := H
     refine qP 3 (sq 6 8) [(0, .slice ak keys.length ck), (1, .slice ad datas.length cq), (2, .slice aw longer.length cw), (3, .I op), (9, .P mb 0), (10, .slice ah (hisK keys datas longer op k).length ch), (11, .slice ao ((li (List.range k)).length) co), (12, .I k), (13, .P b26 0), (75, .agg #[.int .u64 ((k : Int) + 1), .int .u64 0, .I 3, .string (keys[k]), .slice a24 (datas[k]).length k25, .I cd39, .slice none 0 0, .slice none 0 0, .I ((10 * (k : Int)) + 100), .I ((10 * (k : Int)) + 105)]), (76, .P mb40 0)] ?_
     refine qW 33 b26 0 (sq 7 8) (.agg #[.int .u64 ((k : Int) + 1), .int .u64 0, .I 3, .string (keys[k]), .slice a24 (datas[k]).length k25, .I cd39, .slice none 0 0, .slice none 0 0, .I ((10 * (k : Int)) + 100), .I ((10 * (k : Int)) + 105)]) [(b26, .cells #[.int .u64 ((k : Int) + 1), .int .u64 0, .I 3, .string (keys[k]), .slice a24 (datas[k]).length k25, .I cd39, .slice none 0 0, .slice none 0 0, .I ((10 * (k : Int)) + 100), .I ((10 * (k : Int)) + 105)] 33 (0, 0))] H 0 rfl rfl ?_
     intro w47 H
     refine qF 1 [(0, .slice ak keys.length ck), (1, .slice ad datas.length cq), (2, .slice aw longer.length cw), (3, .I op), (9, .P mb40 0), (10, .slice ah (hisK keys datas longer op k).length ch), (11, .slice ao ((li (List.range k)).length) co), (12, .I k), (13, .P b26 0)] ?_
     refine qR 1 [.c [5, 0, 1, 0, 0, 1, 0, 0, 3, 0], .c [5, 0, 1, 0, 0, 1, 0, 0, 4], .b 1, .c [5, 0, 1, 0, 0, 2], .l [5, 0, 1, 0, 0], .b 0, .c [6]] [(0, .slice ak keys.length ck), (1, .slice ad datas.length cq), (2, .slice aw longer.length cw), (3, .I op), (9, .P mb40 0), (10, .slice ah (hisK keys datas longer op k).length ch), (11, .slice ao ((li (List.range k)).length) co), (12, .I k), (13, .P b26 0)] ?_
     refine qG (sq 0 6) ?_
     refine qP 2 (sq 2 6) [(0, .slice ak keys.length ck), (1, .slice ad datas.length cq), (2, .slice aw longer.length cw), (3, .I op), (9, .P mb40 0), (10, .slice ah (hisK keys datas longer op k).length ch), (11, .slice ao ((li (List.range k)).length) co), (12, .I k), (13, .P b26 0), (77, .slice aw longer.length cw), (78, .I k)] ?_
     have hx48 : k < longer.length := by omega
     refine qX .seq 79 (sq 3 6) 36 3 (k : Int) (Shape.int .i64) (longer[k]) H 11 rfl k (by omega) (List.getElem?_eq_getElem hx48) ?_
     intro b49 o50 es51 hr52 H
     have hb53 := Shape.i64_bd hr52
     obtain ⟨rfl, -⟩ := hr52
     refine qL .seq 80 (sq 4 6) 3 b49 o50 0 (.I (longer[k])) (H.fc 0 rfl) ?_
     refine RW.pv (κ := .seq) (d := some 81) (r := (sq 5 6)) (v := .I (IntKind.i64.wrap ((BitVec.ofInt 64 (longer[k]) &&& BitVec.ofInt 64 63).toNat : Nat))) (v' := .I ((longer[k]) % 64)) (by as_aux_lemma => kernel_rfl) (and_i64 (j := 6) (m := 63) (by decide) (by decide)) ?_
     refine qF 1 [(0, .slice ak keys.length ck), (1, .slice ad datas.length cq), (2, .slice aw longer.length cw), (3, .I op), (9, .P mb40 0), (10, .slice ah (hisK keys datas longer op k).length ch), (11, .slice ao ((li (List.range k)).length) co), (12, .I k), (13, .P b26 0), (14, .I ((longer[k]) % 64))] ?_
     refine qR 1 [.c [5, 0, 1, 0, 0, 1, 0, 0, 4, 0], .c [5, 0, 1, 0, 0, 1, 0, 0, 5], .b 1, .c [5, 0, 1, 0, 0, 2], .l [5, 0, 1, 0, 0], .b 0, .c [6]] [(0, .slice ak keys.length ck), (1, .slice ad datas.length cq), (2, .slice aw longer.length cw), (3, .I op), (9, .P mb40 0), (10, .slice ah (hisK keys datas longer op k).length ch), (11, .slice ao ((li (List.range k)).length) co), (12, .I k), (13, .P b26 0), (14, .I ((longer[k]) % 64))] ?_
     refine qG (sq 0 7) ?_
     refine qP 1 (sq 1 7) [(0, .slice ak keys.length ck), (1, .slice ad datas.length cq), (2, .slice aw longer.length cw), (3, .I op), (9, .P mb40 0), (10, .slice ah (hisK keys datas longer op k).length ch), (11, .slice ao ((li (List.range k)).length) co), (12, .I k), (13, .P b26 0), (14, .I ((longer[k]) % 64)), (82, .P b26 8)] ?_
     refine qL .seq 83 (sq 2 7) 3 b26 8 8 (.I ((10 * (k : Int)) + 100)) (H.cells 0 rfl) ?_
     refine qP 1 (sq 3 7) [(0, .slice ak keys.length ck), (1, .slice ad datas.length cq), (2, .slice aw longer.length cw), (3, .I op), (9, .P mb40 0), (10, .slice ah (hisK keys datas longer op k).length ch), (11, .slice ao ((li (List.range k)).length) co), (12, .I k), (13, .P b26 0), (14, .I ((longer[k]) % 64)), (83, .I ((10 * (k : Int)) + 100)), (84, .I ((longer[k]) % 64))] ?_
     refine qI .seq 85 (sq 4 7) (((10 * (k : Int)) + 100) - ((longer[k]) % 64)) ?_
     refine qP 2 (sq 6 7) [(0, .slice ak keys.length ck), (1, .slice ad datas.length cq), (2, .slice aw longer.length cw), (3, .I op), (9, .P mb40 0), (10, .slice ah (hisK keys datas longer op k).length ch), (11, .slice ao ((li (List.range k)).length) co), (12, .I k), (13, .P b26 0), (14, .I ((longer[k]) % 64)), (86, .I (if ((10 * (k : Int)) + 100) - ((longer[k]) % 64) > 1 then ((10 * (k : Int)) + 100) - ((longer[k]) % 64) else 1)), (87, .P b26 8)] ?_
     refine qW 3 b26 8 (sq 7 7) (.I (if ((10 * (k : Int)) + 100) - ((longer[k]) % 64) > 1 then ((10 * (k : Int)) + 100) - ((longer[k]) % 64) else 1)) [(b26, .cells #[.int .u64 ((k : Int) + 1), .int .u64 0, .I 3, .string (keys[k]), .slice a24 (datas[k]).length k25, .I cd39, .slice none 0 0, .slice none 0 0, .I (if ((10 * (k : Int)) + 100) - ((longer[k]) % 64) > 1 then ((10 * (k : Int)) + 100) - ((longer[k]) % 64) else 1), .I ((10 * (k : Int)) + 105)] 33 (0, 0))] H 0 rfl rfl ?_
     intro w54 H
     refine qF 0 [(0, .slice ak keys.length ck), (1, .slice ad datas.length cq), (2, .slice aw longer.length cw), (3, .I op), (9, .P mb40 0), (10, .slice ah (hisK keys datas longer op k).length ch), (11, .slice ao ((li (List.range k)).length) co), (12, .I k), (13, .P b26 0), (14, .I ((longer[k]) % 64))] ?_
     refine qR 1 [.c [5, 0, 1, 0, 0, 1, 0, 0, 5, 0], .c [5, 0, 1, 0, 0, 1, 0, 0, 6], .b 1, .c [5, 0, 1, 0, 0, 2], .l [5, 0, 1, 0, 0], .b 0, .c [6]] [(0, .slice ak keys.length ck), (1, .slice ad datas.length cq), (2, .slice aw longer.length cw), (3, .I op), (9, .P mb40 0), (10, .slice ah (hisK keys datas longer op k).length ch), (11, .slice ao ((li (List.range k)).length) co), (12, .I k), (13, .P b26 0), (14, .I ((longer[k]) % 64))] ?_
     refine qG (sq 0 6) ?_
     refine qP 1 (sq 1 6) [(0, .slice ak keys.length ck), (1, .slice ad datas.length cq), (2, .slice aw longer.length cw), (3, .I op), (9, .P mb40 0), (10, .slice ah (hisK keys datas longer op k).length ch), (11, .slice ao ((li (List.range k)).length) co), (12, .I k), (13, .P b26 0), (14, .I ((longer[k]) % 64)), (88, .P b26 9)] ?_
     refine qL .seq 89 (sq 2 6) 3 b26 9 9 (.I ((10 * (k : Int)) + 105)) (H.cells 0 rfl) ?_
     refine qP 1 (sq 3 6) [(0, .slice ak keys.length ck), (1, .slice ad datas.length cq), (2, .slice aw longer.length cw), (3, .I op), (9, .P mb40 0), (10, .slice ah (hisK keys datas longer op k).length ch), (11, .slice ao ((li (List.range k)).length) co), (12, .I k), (13, .P b26 0), (89, .I ((10 * (k : Int)) + 105)), (90, .I ((longer[k]) % 64))] ?_
     refine qI .seq 91 (sq 4 6) (((10 * (k : Int)) + 105) + ((longer[k]) % 64)) ?_
     refine qP 1 (sq 5 6) [(0, .slice ak keys.length ck), (1, .slice ad datas.length cq), (2, .slice aw longer.length cw), (3, .I op), (9, .P mb40 0), (10, .slice ah (hisK keys datas longer op k).length ch), (11, .slice ao ((li (List.range k)).length) co), (12, .I k), (13, .P b26 0), (91, .I (((10 * (k : Int)) + 105) + ((longer[k]) % 64))), (92, .P b26 9)] ?_
     refine qW 3 b26 9 (sq 6 6) (.I (((10 * (k : Int)) + 105) + ((longer[k]) % 64))) [(b26, .cells #[.int .u64 ((k : Int) + 1), .int .u64 0, .I 3, .string (keys[k]), .slice a24 (datas[k]).length k25, .I cd39, .slice none 0 0, .slice none 0 0, .I (if ((10 * (k : Int)) + 100) - ((longer[k]) % 64) > 1 then ((10 * (k : Int)) + 100) - ((longer[k]) % 64) else 1), .I (((10 * (k : Int)) + 105) + ((longer[k]) % 64))] 33 (0, 0))] H 0 rfl rfl ?_
     intro w55 H
     refine qF 0 [(0, .slice ak keys.length ck), (1, .slice ad datas.length cq), (2, .slice aw longer.length cw), (3, .I op), (9, .P mb40 0), (10, .slice ah (hisK keys datas longer op k).length ch), (11, .slice ao ((li (List.range k)).length) co), (12, .I k), (13, .P b26 0)] ?_
     refine qR 3 [.c [5, 0, 1, 0, 0, 1, 0, 0, 6, 0, 1], .c [5, 0, 1, 0, 0, 1, 0, 0, 7], .b 1, .c [5, 0, 1, 0, 0, 2], .l [5, 0, 1, 0, 0], .b 0, .c [6]] [(0, .slice ak keys.length ck), (1, .slice ad datas.length cq), (2, .slice aw longer.length cw), (3, .I op), (9, .P mb40 0), (10, .slice ah (hisK keys datas longer op k).length ch), (11, .slice ao ((li (List.range k)).length) co), (12, .I k), (13, .P b26 0), (95, .bool ((k : Int) == op))] ?_
     refine qE (k : Int) op (fun h56 => ?_) (fun h56 => ?_)
     ·
      have hio : (k : Int) = op := h56
      refine qG (sq 0 2) ?_
      refine qP 1 (sq 1 2) [(0, .slice ak keys.length ck), (1, .slice ad datas.length cq), (2, .slice aw longer.length cw), (3, .I op), (9, .P mb40 0), (10, .slice ah (hisK keys datas longer op k).length ch), (11, .slice ao ((li (List.range k)).length) co), (12, .I k), (13, .P b26 0), (96, .P b26 5)] ?_
      refine qW 30 b26 5 (sq 2 2) (.I 6) [(b26, .cells #[.int .u64 ((k : Int) + 1), .int .u64 0, .I 3, .string (keys[k]), .slice a24 (datas[k]).length k25, .I 6, .slice none 0 0, .slice none 0 0, .I (if ((10 * (k : Int)) + 100) - ((longer[k]) % 64) > 1 then ((10 * (k : Int)) + 100) - ((longer[k]) % 64) else 1), .I (((10 * (k : Int)) + 105) + ((longer[k]) % 64))] 33 (0, 0))] H 0 rfl rfl ?_
      intro w57 H
      refine qF 0 [(0, .slice ak keys.length ck), (1, .slice ad datas.length cq), (2, .slice aw longer.length cw), (3, .I op), (9, .P mb40 0), (10, .slice ah (hisK keys datas longer op k).length ch), (11, .slice ao ((li (List.range k)).length) co), (12, .I k), (13, .P b26 0)] ?_
      refine qR 1 [.c [5, 0, 1, 0, 0, 1, 0, 0, 7, 0], .c [5, 0, 1, 0, 0, 1, 0, 0, 8], .b 1, .c [5, 0, 1, 0, 0, 2], .l [5, 0, 1, 0, 0], .b 0, .c [6]] [(0, .slice ak keys.length ck), (1, .slice ad datas.length cq), (2, .slice aw longer.length cw), (3, .I op), (9, .P mb40 0), (10, .slice ah (hisK keys datas longer op k).length ch), (11, .slice ao ((li (List.range k)).length) co), (12, .I k), (13, .P b26 0)] ?_
      refine qG (sq 0 5) ?_
      refine qP 1 (sq 1 5) [(0, .slice ak keys.length ck), (1, .slice ad datas.length cq), (2, .slice aw longer.length cw), (3, .I op), (9, .P mb40 0), (10, .slice ah (hisK keys datas longer op k).length ch), (11, .slice ao ((li (List.range k)).length) co), (12, .I k), (13, .P b26 0), (97, .slice ah (hisK keys datas longer op k).length ch)] ?_
      refine qL .seq 98 (sq 2 5) 33 b26 0 0 (.agg #[.int .u64 ((k : Int) + 1), .int .u64 0, .I 3, .string (keys[k]), .slice a24 (datas[k]).length k25, .I 6, .slice none 0 0, .slice none 0 0, .I (if ((10 * (k : Int)) + 100) - ((longer[k]) % 64) > 1 then ((10 * (k : Int)) + 100) - ((longer[k]) % 64) else 1), .I (((10 * (k : Int)) + 105) + ((longer[k]) % 64))]) (H.cells 0 rfl) ?_
      refine RW.new (κ := .seq) (d := some 99) (r := (sq 3 5)) (o := .cells #[.int .u64 ((k : Int) + 1), .int .u64 0, .I 3, .string (keys[k]), .slice a24 (datas[k]).length k25, .I 6, .slice none 0 0, .slice none 0 0, .I (if ((10 * (k : Int)) + 100) - ((longer[k]) % 64) > 1 then ((10 * (k : Int)) + 100) - ((longer[k]) % 64) else 1), .I (((10 * (k : Int)) + 105) + ((longer[k]) % 64))] 33 (0, 0)) (v := fun b => .slice (some ⟨b, 0, none⟩) 1 1) (fun b => by as_aux_lemma => kernel_rfl) (nofun) H ?_
      intro b58 w59 H
      have H := H.freeze 0 rfl wopS ([⟨(k : Int) + 1, 0, 3, keys[k], datas[k], 6, [], [], if ((10 * (k : Int)) + 100) - ((longer[k]) % 64) > 1 then ((10 * (k : Int)) + 100) - ((longer[k]) % 64) else 1, ((10 * (k : Int)) + 105) + ((longer[k]) % 64)⟩] : List Wop) 1 (by simp [maxLen]) (by first | exact Nat.le_refl _ | simp) (EsP.cons (c := [.int .u64 ((k : Int) + 1), .int .u64 0, .I 3, .string (keys[k]), .slice a24 (datas[k]).length k25, .I 6, .slice none 0 0, .slice none 0 0, .I (if ((10 * (k : Int)) + 100) - ((longer[k]) % 64) > 1 then ((10 * (k : Int)) + 100) - ((longer[k]) % 64) else 1), .I (((10 * (k : Int)) + 105) + ((longer[k]) % 64))]) (wop_mk (l0 := [.int .u64 ((k : Int) + 1)]) (y0 := (k : Int) + 1) (l1 := [.int .u64 0]) (y1 := 0) (l2 := [.I 3]) (y2 := 3) (l3 := [.string (keys[k])]) (y3 := keys[k]) (l4 := [.slice a24 (datas[k]).length k25]) (y4 := datas[k]) (l5 := [.I 6]) (y5 := 6) (l6 := [.slice none 0 0]) (y6 := []) (l7 := [.slice none 0 0]) (y7 := []) (l8 := [.I (if ((10 * (k : Int)) + 100) - ((longer[k]) % 64) > 1 then ((10 * (k : Int)) + 100) - ((longer[k]) % 64) else 1)]) (y8 := if ((10 * (k : Int)) + 100) - ((longer[k]) % 64) > 1 then ((10 * (k : Int)) + 100) - ((longer[k]) % 64) else 1) (l9 := [.I (((10 * (k : Int)) + 105) + ((longer[k]) % 64))]) (y9 := ((10 * (k : Int)) + 105) + ((longer[k]) % 64)) u64a (Shape.int_mk (by decide)) (Shape.int_mk (by decide)) ⟨rfl, hshr18⟩ (H.rp 5 rfl) (Shape.int_mk (by decide)) Shape.slice_nil Shape.slice_nil i64a i64a) EsP.nil)
      have H : Hp w S [] [(b26, .cells #[.int .u64 ((k : Int) + 1), .int .u64 0, .I 3, .string (keys[k]), .slice a24 (datas[k]).length k25, .I 6, .slice none 0 0, .slice none 0 0, .I (if ((10 * (k : Int)) + 100) - ((longer[k]) % 64) > 1 then ((10 * (k : Int)) + 100) - ((longer[k]) % 64) else 1), .I (((10 * (k : Int)) + 105) + ((longer[k]) % 64))] 33 (0, 0))] [⟨wopS, 33, .slice ah (hisK keys datas longer op k).length ch, hisK keys datas longer op k⟩, ⟨(Shape.int .i64), 3, .slice ao ((li (List.range k)).length) co, li (List.range k)⟩] [Rp (Shape.slice wopS) [.slice (some ⟨b58, 0, none⟩) 1 1] ([⟨(k : Int) + 1, 0, 3, keys[k], datas[k], 6, [], [], if ((10 * (k : Int)) + 100) - ((longer[k]) % 64) > 1 then ((10 * (k : Int)) + 100) - ((longer[k]) % 64) else 1, ((10 * (k : Int)) + 105) + ((longer[k]) % 64)⟩] : List Wop), Fc b49 o50 [.I (longer[k])], Fc mb40 0 [.slice a41 l43.length c42], Rp (Shape.slice prsS) [.slice a41 l43.length c42] l43, Rp SB [.slice a34 (datas[k]).length k35] (datas[k]), Fc b30 o31 [.slice a34 (datas[k]).length k35], Rp SB [.slice a24 (datas[k]).length k25] (datas[k]), Fc b20 o21 [.slice a24 (datas[k]).length k25], Fc b15 o16 [.string (keys[k])], Rp (Shape.slice prsS) [.slice al l.length cl] l, Fc mb 0 [.slice al l.length cl], Rp (Shape.slice Shape.str) [.slice ak keys.length ck] keys, Rp (Shape.slice SB) [.slice ad datas.length cq] datas, Rp (Shape.slice (Shape.int .i64)) [.slice aw longer.length cw] longer, Fz tabsQ] _ := H
      refine RW.appendW (d := some 100) (r := (sq 4 5)) (T := 22) (ty := 22) (e := 33) (m := 10) (by_ := 136) (v := .slice ah (hisK keys datas longer op k).length ch) (a2 := (some ⟨b58, 0, none⟩)) (l2 := 1) (c2 := 1) (zs := hisK keys datas longer op (k + 1)) (by as_aux_lemma => kernel_rfl) (by as_aux_lemma => kernel_rfl) rfl H 0 rfl 0 rfl (by rw [his_step hk1 hkd hkl]; congr 2; exact kn_del hde hinv0.2.2 hm44 rfl _ ((if_pos hio).symm)) (by rw [his_len (by omega)]; omega) ?_
      intro a60 c61 w63 H hc62
      have H : Hp w S [] [(b26, .cells #[.int .u64 ((k : Int) + 1), .int .u64 0, .I 3, .string (keys[k]), .slice a24 (datas[k]).length k25, .I 6, .slice none 0 0, .slice none 0 0, .I (if ((10 * (k : Int)) + 100) - ((longer[k]) % 64) > 1 then ((10 * (k : Int)) + 100) - ((longer[k]) % 64) else 1), .I (((10 * (k : Int)) + 105) + ((longer[k]) % 64))] 33 (0, 0))] [⟨wopS, 33, .slice a60 ((hisK keys datas longer op (k + 1)).length) c61, hisK keys datas longer op (k + 1)⟩, ⟨(Shape.int .i64), 3, .slice ao ((li (List.range k)).length) co, li (List.range k)⟩] [Rp (Shape.slice wopS) [.slice (some ⟨b58, 0, none⟩) 1 1] ([⟨(k : Int) + 1, 0, 3, keys[k], datas[k], 6, [], [], if ((10 * (k : Int)) + 100) - ((longer[k]) % 64) > 1 then ((10 * (k : Int)) + 100) - ((longer[k]) % 64) else 1, ((10 * (k : Int)) + 105) + ((longer[k]) % 64)⟩] : List Wop), Fc b49 o50 [.I (longer[k])], Fc mb40 0 [.slice a41 l43.length c42], Rp (Shape.slice prsS) [.slice a41 l43.length c42] l43, Rp SB [.slice a34 (datas[k]).length k35] (datas[k]), Fc b30 o31 [.slice a34 (datas[k]).length k35], Rp SB [.slice a24 (datas[k]).length k25] (datas[k]), Fc b20 o21 [.slice a24 (datas[k]).length k25], Fc b15 o16 [.string (keys[k])], Rp (Shape.slice prsS) [.slice al l.length cl] l, Fc mb 0 [.slice al l.length cl], Rp (Shape.slice Shape.str) [.slice ak keys.length ck] keys, Rp (Shape.slice SB) [.slice ad datas.length cq] datas, Rp (Shape.slice (Shape.int .i64)) [.slice aw longer.length cw] longer, Fz tabsQ] _ := H
      refine qF 1 [(0, .slice ak keys.length ck), (1, .slice ad datas.length cq), (2, .slice aw longer.length cw), (3, .I op), (9, .P mb40 0), (10, .slice a60 ((hisK keys datas longer op (k + 1)).length) c61), (11, .slice ao ((li (List.range k)).length) co), (12, .I k)] ?_
      refine qG (sq 0 5) ?_
      refine qP 2 (sq 2 5) [(0, .slice ak keys.length ck), (1, .slice ad datas.length cq), (2, .slice aw longer.length cw), (3, .I op), (9, .P mb40 0), (10, .slice a60 ((hisK keys datas longer op (k + 1)).length) c61), (11, .slice ao ((li (List.range k)).length) co), (12, .I k), (101, .slice ao ((li (List.range k)).length) co), (102, .I k)] ?_
      refine RW.new (κ := .seq) (d := some 103) (r := (sq 3 5)) (o := .cells #[.I k] 3 (0, 0)) (v := fun b => .slice (some ⟨b, 0, none⟩) 1 1) (fun b => by as_aux_lemma => kernel_rfl) (nofun) H ?_
      intro b64 w65 H
      have H := H.freeze 0 rfl (Shape.int .i64) ([(k : Int)] : List Int) 1 (by simp [maxLen]) (by first | exact Nat.le_refl _ | simp) (EsP.cons (c := [.I k]) i64a EsP.nil)
      have H : Hp w S [] [(b26, .cells #[.int .u64 ((k : Int) + 1), .int .u64 0, .I 3, .string (keys[k]), .slice a24 (datas[k]).length k25, .I 6, .slice none 0 0, .slice none 0 0, .I (if ((10 * (k : Int)) + 100) - ((longer[k]) % 64) > 1 then ((10 * (k : Int)) + 100) - ((longer[k]) % 64) else 1), .I (((10 * (k : Int)) + 105) + ((longer[k]) % 64))] 33 (0, 0))] [⟨wopS, 33, .slice a60 ((hisK keys datas longer op (k + 1)).length) c61, hisK keys datas longer op (k + 1)⟩, ⟨(Shape.int .i64), 3, .slice ao ((li (List.range k)).length) co, li (List.range k)⟩] [Rp (Shape.slice (Shape.int .i64)) [.slice (some ⟨b64, 0, none⟩) 1 1] ([(k : Int)] : List Int), Rp (Shape.slice wopS) [.slice (some ⟨b58, 0, none⟩) 1 1] ([⟨(k : Int) + 1, 0, 3, keys[k], datas[k], 6, [], [], if ((10 * (k : Int)) + 100) - ((longer[k]) % 64) > 1 then ((10 * (k : Int)) + 100) - ((longer[k]) % 64) else 1, ((10 * (k : Int)) + 105) + ((longer[k]) % 64)⟩] : List Wop), Fc b49 o50 [.I (longer[k])], Fc mb40 0 [.slice a41 l43.length c42], Rp (Shape.slice prsS) [.slice a41 l43.length c42] l43, Rp SB [.slice a34 (datas[k]).length k35] (datas[k]), Fc b30 o31 [.slice a34 (datas[k]).length k35], Rp SB [.slice a24 (datas[k]).length k25] (datas[k]), Fc b20 o21 [.slice a24 (datas[k]).length k25], Fc b15 o16 [.string (keys[k])], Rp (Shape.slice prsS) [.slice al l.length cl] l, Fc mb 0 [.slice al l.length cl], Rp (Shape.slice Shape.str) [.slice ak keys.length ck] keys, Rp (Shape.slice SB) [.slice ad datas.length cq] datas, Rp (Shape.slice (Shape.int .i64)) [.slice aw longer.length cw] longer, Fz tabsQ] _ := H
      refine RW.appendW (d := some 104) (r := (sq 4 5)) (T := 36) (ty := 36) (e := 3) (m := 1) (by_ := 8) (v := .slice ao ((li (List.range k)).length) co) (a2 := (some ⟨b64, 0, none⟩)) (l2 := 1) (c2 := 1) (zs := li (List.range (k + 1))) (by as_aux_lemma => kernel_rfl) (by as_aux_lemma => kernel_rfl) rfl H 1 rfl 0 rfl (li_range_snoc k) (by rw [li_len, List.length_range]; omega) ?_
      intro a66 c67 w69 H hc68
      have H : Hp w S [] [(b26, .cells #[.int .u64 ((k : Int) + 1), .int .u64 0, .I 3, .string (keys[k]), .slice a24 (datas[k]).length k25, .I 6, .slice none 0 0, .slice none 0 0, .I (if ((10 * (k : Int)) + 100) - ((longer[k]) % 64) > 1 then ((10 * (k : Int)) + 100) - ((longer[k]) % 64) else 1), .I (((10 * (k : Int)) + 105) + ((longer[k]) % 64))] 33 (0, 0))] [⟨wopS, 33, .slice a60 ((hisK keys datas longer op (k + 1)).length) c61, hisK keys datas longer op (k + 1)⟩, ⟨(Shape.int .i64), 3, .slice a66 ((li (List.range (k + 1))).length) c67, li (List.range (k + 1))⟩] [Rp (Shape.slice (Shape.int .i64)) [.slice (some ⟨b64, 0, none⟩) 1 1] ([(k : Int)] : List Int), Rp (Shape.slice wopS) [.slice (some ⟨b58, 0, none⟩) 1 1] ([⟨(k : Int) + 1, 0, 3, keys[k], datas[k], 6, [], [], if ((10 * (k : Int)) + 100) - ((longer[k]) % 64) > 1 then ((10 * (k : Int)) + 100) - ((longer[k]) % 64) else 1, ((10 * (k : Int)) + 105) + ((longer[k]) % 64)⟩] : List Wop), Fc b49 o50 [.I (longer[k])], Fc mb40 0 [.slice a41 l43.length c42], Rp (Shape.slice prsS) [.slice a41 l43.length c42] l43, Rp SB [.slice a34 (datas[k]).length k35] (datas[k]), Fc b30 o31 [.slice a34 (datas[k]).length k35], Rp SB [.slice a24 (datas[k]).length k25] (datas[k]), Fc b20 o21 [.slice a24 (datas[k]).length k25], Fc b15 o16 [.string (keys[k])], Rp (Shape.slice prsS) [.slice al l.length cl] l, Fc mb 0 [.slice al l.length cl], Rp (Shape.slice Shape.str) [.slice ak keys.length ck] keys, Rp (Shape.slice SB) [.slice ad datas.length cq] datas, Rp (Shape.slice (Shape.int .i64)) [.slice aw longer.length cw] longer, Fz tabsQ] _ := H
      refine qF 1 [(0, .slice ak keys.length ck), (1, .slice ad datas.length cq), (2, .slice aw longer.length cw), (3, .I op), (9, .P mb40 0), (10, .slice a60 ((hisK keys datas longer op (k + 1)).length) c61), (11, .slice a66 ((li (List.range (k + 1))).length) c67), (12, .I k)] ?_
      refine qR 1 [.c [5, 0, 1, 0, 0, 2], .l [5, 0, 1, 0, 0], .b 0, .c [6]] [(0, .slice ak keys.length ck), (1, .slice ad datas.length cq), (2, .slice aw longer.length cw), (3, .I op), (9, .P mb40 0), (10, .slice a60 ((hisK keys datas longer op (k + 1)).length) c61), (11, .slice a66 ((li (List.range (k + 1))).length) c67), (12, .I k)] ?_
      refine qG (sq 0 3) ?_
      refine qP 1 (sq 1 3) [(0, .slice ak keys.length ck), (1, .slice ad datas.length cq), (2, .slice aw longer.length cw), (3, .I op), (9, .P mb40 0), (10, .slice a60 ((hisK keys datas longer op (k + 1)).length) c61), (11, .slice a66 ((li (List.range (k + 1))).length) c67), (12, .I k), (44, .I k)] ?_
      refine qI .seq 45 (sq 2 3) ((k : Int) + 1) ?_
      refine qF 1 [(0, .slice ak keys.length ck), (1, .slice ad datas.length cq), (2, .slice aw longer.length cw), (3, .I op), (9, .P mb40 0), (10, .slice a60 ((hisK keys datas longer op (k + 1)).length) c61), (11, .slice a66 ((li (List.range (k + 1))).length) c67), (12, .I ((k : Int) + 1))] ?_
      have H := H.pick [4, 3, 12, 13, 14, 15] rfl
      have H := H.drop (M' := []) (W' := [⟨wopS, 33, .slice a60 ((hisK keys datas longer op (k + 1)).length) c61, hisK keys datas longer op (k + 1)⟩, ⟨(Shape.int .i64), 3, .slice a66 ((li (List.range (k + 1))).length) c67, li (List.range (k + 1))⟩]) (by repeat (first | exact List.Sublist.refl _ | apply List.Sublist.cons_cons | apply List.Sublist.cons)) (by repeat (first | exact List.Sublist.refl _ | apply List.Sublist.cons_cons | apply List.Sublist.cons))
      exact WK.back (hback10 (k + 1, mb40, a41, c42, l43, a60, c61, a66, c67) _ ⟨H, by omega, by omega, by rw [tb_step hk1 hkd hkl]; rw [if_pos hde]; exact step_del hinv0.2.2 (by have h9 := hm46; unfold nextB at h9; rwa [if_neg (show ¬ (3 : Int) = 1 by decide)] at h9)⟩ (by first | omega | (simp only []; omega))) (by as_aux_lemma => kernel_rfl)
     ·
      have hio : ¬ (k : Int) = op := h56
      refine qR 2 [.c [5, 0, 1, 0, 0, 1, 0, 0, 7, 0], .c [5, 0, 1, 0, 0, 1, 0, 0, 8], .b 1, .c [5, 0, 1, 0, 0, 2], .l [5, 0, 1, 0, 0], .b 0, .c [6]] [(0, .slice ak keys.length ck), (1, .slice ad datas.length cq), (2, .slice aw longer.length cw), (3, .I op), (9, .P mb40 0), (10, .slice ah (hisK keys datas longer op k).length ch), (11, .slice ao ((li (List.range k)).length) co), (12, .I k), (13, .P b26 0)] ?_
      refine qG (sq 0 5) ?_
      refine qP 1 (sq 1 5) [(0, .slice ak keys.length ck), (1, .slice ad datas.length cq), (2, .slice aw longer.length cw), (3, .I op), (9, .P mb40 0), (10, .slice ah (hisK keys datas longer op k).length ch), (11, .slice ao ((li (List.range k)).length) co), (12, .I k), (13, .P b26 0), (97, .slice ah (hisK keys datas longer op k).length ch)] ?_
      refine qL .seq 98 (sq 2 5) 33 b26 0 0 (.agg #[.int .u64 ((k : Int) + 1), .int .u64 0, .I 3, .string (keys[k]), .slice a24 (datas[k]).length k25, .I cd39, .slice none 0 0, .slice none 0 0, .I (if ((10 * (k : Int)) + 100) - ((longer[k]) % 64) > 1 then ((10 * (k : Int)) + 100) - ((longer[k]) % 64) else 1), .I (((10 * (k : Int)) + 105) + ((longer[k]) % 64))]) (H.cells 0 rfl) ?_
      refine RW.new (κ := .seq) (d := some 99) (r := (sq 3 5)) (o := .cells #[.int .u64 ((k : Int) + 1), .int .u64 0, .I 3, .string (keys[k]), .slice a24 (datas[k]).length k25, .I cd39, .slice none 0 0, .slice none 0 0, .I (if ((10 * (k : Int)) + 100) - ((longer[k]) % 64) > 1 then ((10 * (k : Int)) + 100) - ((longer[k]) % 64) else 1), .I (((10 * (k : Int)) + 105) + ((longer[k]) % 64))] 33 (0, 0)) (v := fun b => .slice (some ⟨b, 0, none⟩) 1 1) (fun b => by as_aux_lemma => kernel_rfl) (nofun) H ?_
      intro b70 w71 H
      have H := H.freeze 0 rfl wopS ([⟨(k : Int) + 1, 0, 3, keys[k], datas[k], cd39, [], [], if ((10 * (k : Int)) + 100) - ((longer[k]) % 64) > 1 then ((10 * (k : Int)) + 100) - ((longer[k]) % 64) else 1, ((10 * (k : Int)) + 105) + ((longer[k]) % 64)⟩] : List Wop) 1 (by simp [maxLen]) (by first | exact Nat.le_refl _ | simp) (EsP.cons (c := [.int .u64 ((k : Int) + 1), .int .u64 0, .I 3, .string (keys[k]), .slice a24 (datas[k]).length k25, .I cd39, .slice none 0 0, .slice none 0 0, .I (if ((10 * (k : Int)) + 100) - ((longer[k]) % 64) > 1 then ((10 * (k : Int)) + 100) - ((longer[k]) % 64) else 1), .I (((10 * (k : Int)) + 105) + ((longer[k]) % 64))]) (wop_mk (l0 := [.int .u64 ((k : Int) + 1)]) (y0 := (k : Int) + 1) (l1 := [.int .u64 0]) (y1 := 0) (l2 := [.I 3]) (y2 := 3) (l3 := [.string (keys[k])]) (y3 := keys[k]) (l4 := [.slice a24 (datas[k]).length k25]) (y4 := datas[k]) (l5 := [.I cd39]) (y5 := cd39) (l6 := [.slice none 0 0]) (y6 := []) (l7 := [.slice none 0 0]) (y7 := []) (l8 := [.I (if ((10 * (k : Int)) + 100) - ((longer[k]) % 64) > 1 then ((10 * (k : Int)) + 100) - ((longer[k]) % 64) else 1)]) (y8 := if ((10 * (k : Int)) + 100) - ((longer[k]) % 64) > 1 then ((10 * (k : Int)) + 100) - ((longer[k]) % 64) else 1) (l9 := [.I (((10 * (k : Int)) + 105) + ((longer[k]) % 64))]) (y9 := ((10 * (k : Int)) + 105) + ((longer[k]) % 64)) u64a (Shape.int_mk (by decide)) (Shape.int_mk (by decide)) ⟨rfl, hshr18⟩ (H.rp 5 rfl) i64a Shape.slice_nil Shape.slice_nil i64a i64a) EsP.nil)
      have H : Hp w S [] [(b26, .cells #[.int .u64 ((k : Int) + 1), .int .u64 0, .I 3, .string (keys[k]), .slice a24 (datas[k]).length k25, .I cd39, .slice none 0 0, .slice none 0 0, .I (if ((10 * (k : Int)) + 100) - ((longer[k]) % 64) > 1 then ((10 * (k : Int)) + 100) - ((longer[k]) % 64) else 1), .I (((10 * (k : Int)) + 105) + ((longer[k]) % 64))] 33 (0, 0))] [⟨wopS, 33, .slice ah (hisK keys datas longer op k).length ch, hisK keys datas longer op k⟩, ⟨(Shape.int .i64), 3, .slice ao ((li (List.range k)).length) co, li (List.range k)⟩] [Rp (Shape.slice wopS) [.slice (some ⟨b70, 0, none⟩) 1 1] ([⟨(k : Int) + 1, 0, 3, keys[k], datas[k], cd39, [], [], if ((10 * (k : Int)) + 100) - ((longer[k]) % 64) > 1 then ((10 * (k : Int)) + 100) - ((longer[k]) % 64) else 1, ((10 * (k : Int)) + 105) + ((longer[k]) % 64)⟩] : List Wop), Fc b49 o50 [.I (longer[k])], Fc mb40 0 [.slice a41 l43.length c42], Rp (Shape.slice prsS) [.slice a41 l43.length c42] l43, Rp SB [.slice a34 (datas[k]).length k35] (datas[k]), Fc b30 o31 [.slice a34 (datas[k]).length k35], Rp SB [.slice a24 (datas[k]).length k25] (datas[k]), Fc b20 o21 [.slice a24 (datas[k]).length k25], Fc b15 o16 [.string (keys[k])], Rp (Shape.slice prsS) [.slice al l.length cl] l, Fc mb 0 [.slice al l.length cl], Rp (Shape.slice Shape.str) [.slice ak keys.length ck] keys, Rp (Shape.slice SB) [.slice ad datas.length cq] datas, Rp (Shape.slice (Shape.int .i64)) [.slice aw longer.length cw] longer, Fz tabsQ] _ := H
      refine RW.appendW (d := some 100) (r := (sq 4 5)) (T := 22) (ty := 22) (e := 33) (m := 10) (by_ := 136) (v := .slice ah (hisK keys datas longer op k).length ch) (a2 := (some ⟨b70, 0, none⟩)) (l2 := 1) (c2 := 1) (zs := hisK keys datas longer op (k + 1)) (by as_aux_lemma => kernel_rfl) (by as_aux_lemma => kernel_rfl) rfl H 0 rfl 0 rfl (by rw [his_step hk1 hkd hkl]; congr 2; exact kn_del hde hinv0.2.2 hm44 rfl _ ((if_neg hio).symm)) (by rw [his_len (by omega)]; omega) ?_
      intro a72 c73 w75 H hc74
      have H : Hp w S [] [(b26, .cells #[.int .u64 ((k : Int) + 1), .int .u64 0, .I 3, .string (keys[k]), .slice a24 (datas[k]).length k25, .I cd39, .slice none 0 0, .slice none 0 0, .I (if ((10 * (k : Int)) + 100) - ((longer[k]) % 64) > 1 then ((10 * (k : Int)) + 100) - ((longer[k]) % 64) else 1), .I (((10 * (k : Int)) + 105) + ((longer[k]) % 64))] 33 (0, 0))] [⟨wopS, 33, .slice a72 ((hisK keys datas longer op (k + 1)).length) c73, hisK keys datas longer op (k + 1)⟩, ⟨(Shape.int .i64), 3, .slice ao ((li (List.range k)).length) co, li (List.range k)⟩] [Rp (Shape.slice wopS) [.slice (some ⟨b70, 0, none⟩) 1 1] ([⟨(k : Int) + 1, 0, 3, keys[k], datas[k], cd39, [], [], if ((10 * (k : Int)) + 100) - ((longer[k]) % 64) > 1 then ((10 * (k : Int)) + 100) - ((longer[k]) % 64) else 1, ((10 * (k : Int)) + 105) + ((longer[k]) % 64)⟩] : List Wop), Fc b49 o50 [.I (longer[k])], Fc mb40 0 [.slice a41 l43.length c42], Rp (Shape.slice prsS) [.slice a41 l43.length c42] l43, Rp SB [.slice a34 (datas[k]).length k35] (datas[k]), Fc b30 o31 [.slice a34 (datas[k]).length k35], Rp SB [.slice a24 (datas[k]).length k25] (datas[k]), Fc b20 o21 [.slice a24 (datas[k]).length k25], Fc b15 o16 [.string (keys[k])], Rp (Shape.slice prsS) [.slice al l.length cl] l, Fc mb 0 [.slice al l.length cl], Rp (Shape.slice Shape.str) [.slice ak keys.length ck] keys, Rp (Shape.slice SB) [.slice ad datas.length cq] datas, Rp (Shape.slice (Shape.int .i64)) [.slice aw longer.length cw] longer, Fz tabsQ] _ := H
      refine qF 1 [(0, .slice ak keys.length ck), (1, .slice ad datas.length cq), (2, .slice aw longer.length cw), (3, .I op), (9, .P mb40 0), (10, .slice a72 ((hisK keys datas longer op (k + 1)).length) c73), (11, .slice ao ((li (List.range k)).length) co), (12, .I k)] ?_
      refine qG (sq 0 5) ?_
      refine qP 2 (sq 2 5) [(0, .slice ak keys.length ck), (1, .slice ad datas.length cq), (2, .slice aw longer.length cw), (3, .I op), (9, .P mb40 0), (10, .slice a72 ((hisK keys datas longer op (k + 1)).length) c73), (11, .slice ao ((li (List.range k)).length) co), (12, .I k), (101, .slice ao ((li (List.range k)).length) co), (102, .I k)] ?_
      refine RW.new (κ := .seq) (d := some 103) (r := (sq 3 5)) (o := .cells #[.I k] 3 (0, 0)) (v := fun b => .slice (some ⟨b, 0, none⟩) 1 1) (fun b => by as_aux_lemma => kernel_rfl) (nofun) H ?_
      intro b76 w77 H
      have H := H.freeze 0 rfl (Shape.int .i64) ([(k : Int)] : List Int) 1 (by simp [maxLen]) (by first | exact Nat.le_refl _ | simp) (EsP.cons (c := [.I k]) i64a EsP.nil)
      have H : Hp w S [] [(b26, .cells #[.int .u64 ((k : Int) + 1), .int .u64 0, .I 3, .string (keys[k]), .slice a24 (datas[k]).length k25, .I cd39, .slice none 0 0, .slice none 0 0, .I (if ((10 * (k : Int)) + 100) - ((longer[k]) % 64) > 1 then ((10 * (k : Int)) + 100) - ((longer[k]) % 64) else 1), .I (((10 * (k : Int)) + 105) + ((longer[k]) % 64))] 33 (0, 0))] [⟨wopS, 33, .slice a72 ((hisK keys datas longer op (k + 1)).length) c73, hisK keys datas longer op (k + 1)⟩, ⟨(Shape.int .i64), 3, .slice ao ((li (List.range k)).length) co, li (List.range k)⟩] [Rp (Shape.slice (Shape.int .i64)) [.slice (some ⟨b76, 0, none⟩) 1 1] ([(k : Int)] : List Int), Rp (Shape.slice wopS) [.slice (some ⟨b70, 0, none⟩) 1 1] ([⟨(k : Int) + 1, 0, 3, keys[k], datas[k], cd39, [], [], if ((10 * (k : Int)) + 100) - ((longer[k]) % 64) > 1 then ((10 * (k : Int)) + 100) - ((longer[k]) % 64) else 1, ((10 * (k : Int)) + 105) + ((longer[k]) % 64)⟩] : List Wop), Fc b49 o50 [.I (longer[k])], Fc mb40 0 [.slice a41 l43.length c42], Rp (Shape.slice prsS) [.slice a41 l43.length c42] l43, Rp SB [.slice a34 (datas[k]).length k35] (datas[k]), Fc b30 o31 [.slice a34 (datas[k]).length k35], Rp SB [.slice a24 (datas[k]).length k25] (datas[k]), Fc b20 o21 [.slice a24 (datas[k]).length k25], Fc b15 o16 [.string (keys[k])], Rp (Shape.slice prsS) [.slice al l.length cl] l, Fc mb 0 [.slice al l.length cl], Rp (Shape.slice Shape.str) [.slice ak keys.length ck] keys, Rp (Shape.slice SB) [.slice ad datas.length cq] datas, Rp (Shape.slice (Shape.int .i64)) [.slice aw longer.length cw] longer, Fz tabsQ] _ := H
      refine RW.appendW (d := some 104) (r := (sq 4 5)) (T := 36) (ty := 36) (e := 3) (m := 1) (by_ := 8) (v := .slice ao ((li (List.range k)).length) co) (a2 := (some ⟨b76, 0, none⟩)) (l2 := 1) (c2 := 1) (zs := li (List.range (k + 1))) (by as_aux_lemma => kernel_rfl) (by as_aux_lemma => kernel_rfl) rfl H 1 rfl 0 rfl (li_range_snoc k) (by rw [li_len, List.length_range]; omega) ?_
      intro a78 c79 w81 H hc80
      have H : Hp w S [] [(b26, .cells #[.int .u64 ((k : Int) + 1), .int .u64 0, .I 3, .string (keys[k]), .slice a24 (datas[k]).length k25, .I cd39, .slice none 0 0, .slice none 0 0, .I (if ((10 * (k : Int)) + 100) - ((longer[k]) % 64) > 1 then ((10 * (k : Int)) + 100) - ((longer[k]) % 64) else 1), .I (((10 * (k : Int)) + 105) + ((longer[k]) % 64))] 33 (0, 0))] [⟨wopS, 33, .slice a72 ((hisK keys datas longer op (k + 1)).length) c73, hisK keys datas longer op (k + 1)⟩, ⟨(Shape.int .i64), 3, .slice a78 ((li (List.range (k + 1))).length) c79, li (List.range (k + 1))⟩] [Rp (Shape.slice (Shape.int .i64)) [.slice (some ⟨b76, 0, none⟩) 1 1] ([(k : Int)] : List Int), Rp (Shape.slice wopS) [.slice (some ⟨b70, 0, none⟩) 1 1] ([⟨(k : Int) + 1, 0, 3, keys[k], datas[k], cd39, [], [], if ((10 * (k : Int)) + 100) - ((longer[k]) % 64) > 1 then ((10 * (k : Int)) + 100) - ((longer[k]) % 64) else 1, ((10 * (k : Int)) + 105) + ((longer[k]) % 64)⟩] : List Wop), Fc b49 o50 [.I (longer[k])], Fc mb40 0 [.slice a41 l43.length c42], Rp (Shape.slice prsS) [.slice a41 l43.length c42] l43, Rp SB [.slice a34 (datas[k]).length k35] (datas[k]), Fc b30 o31 [.slice a34 (datas[k]).length k35], Rp SB [.slice a24 (datas[k]).length k25] (datas[k]), Fc b20 o21 [.slice a24 (datas[k]).length k25], Fc b15 o16 [.string (keys[k])], Rp (Shape.slice prsS) [.slice al l.length cl] l, Fc mb 0 [.slice al l.length cl], Rp (Shape.slice Shape.str) [.slice ak keys.length ck] keys, Rp (Shape.slice SB) [.slice ad datas.length cq] datas, Rp (Shape.slice (Shape.int .i64)) [.slice aw longer.length cw] longer, Fz tabsQ] _ := H
      refine qF 1 [(0, .slice ak keys.length ck), (1, .slice ad datas.length cq), (2, .slice aw longer.length cw), (3, .I op), (9, .P mb40 0), (10, .slice a72 ((hisK keys datas longer op (k + 1)).length) c73), (11, .slice a78 ((li (List.range (k + 1))).length) c79), (12, .I k)] ?_
      refine qR 1 [.c [5, 0, 1, 0, 0, 2], .l [5, 0, 1, 0, 0], .b 0, .c [6]] [(0, .slice ak keys.length ck), (1, .slice ad datas.length cq), (2, .slice aw longer.length cw), (3, .I op), (9, .P mb40 0), (10, .slice a72 ((hisK keys datas longer op (k + 1)).length) c73), (11, .slice a78 ((li (List.range (k + 1))).length) c79), (12, .I k)] ?_
      refine qG (sq 0 3) ?_
      refine qP 1 (sq 1 3) [(0, .slice ak keys.length ck), (1, .slice ad datas.length cq), (2, .slice aw longer.length cw), (3, .I op), (9, .P mb40 0), (10, .slice a72 ((hisK keys datas longer op (k + 1)).length) c73), (11, .slice a78 ((li (List.range (k + 1))).length) c79), (12, .I k), (44, .I k)] ?_
      refine qI .seq 45 (sq 2 3) ((k : Int) + 1) ?_
      refine qF 1 [(0, .slice ak keys.length ck), (1, .slice ad datas.length cq), (2, .slice aw longer.length cw), (3, .I op), (9, .P mb40 0), (10, .slice a72 ((hisK keys datas longer op (k + 1)).length) c73), (11, .slice a78 ((li (List.range (k + 1))).length) c79), (12, .I ((k : Int) + 1))] ?_
      have H := H.pick [4, 3, 12, 13, 14, 15] rfl
      have H := H.drop (M' := []) (W' := [⟨wopS, 33, .slice a72 ((hisK keys datas longer op (k + 1)).length) c73, hisK keys datas longer op (k + 1)⟩, ⟨(Shape.int .i64), 3, .slice a78 ((li (List.range (k + 1))).length) c79, li (List.range (k + 1))⟩]) (by repeat (first | exact List.Sublist.refl _ | apply List.Sublist.cons_cons | apply List.Sublist.cons)) (by repeat (first | exact List.Sublist.refl _ | apply List.Sublist.cons_cons | apply List.Sublist.cons))
      exact WK.back (hback10 (k + 1, mb40, a41, c42, l43, a72, c73, a78, c79) _ ⟨H, by omega, by omega, by rw [tb_step hk1 hkd hkl]; rw [if_pos hde]; exact step_del hinv0.2.2 (by have h9 := hm46; unfold nextB at h9; rwa [if_neg (show ¬ (3 : Int) = 1 by decide)] at h9)⟩ (by first | omega | (simp only []; omega))) (by as_aux_lemma => kernel_rfl)
    ·
     have hde : datas[k] ≠ [] := fun q => by rw [q] at h36; exact h36 rfl
     refine qR 2 [.c [5, 0, 1, 0, 0, 1, 0, 0, 2, 0], .c [5, 0, 1, 0, 0, 1, 0, 0, 3], .b 1, .c [5, 0, 1, 0, 0, 2], .l [5, 0, 1, 0, 0], .b 0, .c [6]] [(0, .slice ak keys.length ck), (1, .slice ad datas.length cq), (2, .slice aw longer.length cw), (3, .I op), (9, .P mb 0), (10, .slice ah (hisK keys datas longer op k).length ch), (11, .slice ao ((li (List.range k)).length) co), (12, .I k), (13, .P b26 0)] ?_
     refine qG (sq 0 8) ?_
     refine qP 1 (sq 1 8) [(0, .slice ak keys.length ck), (1, .slice ad datas.length cq), (2, .slice aw longer.length cw), (3, .I op), (9, .P mb 0), (10, .slice ah (hisK keys datas longer op k).length ch), (11, .slice ao ((li (List.range k)).length) co), (12, .I k), (13, .P b26 0), (72, .P mb 0)] ?_
     refine qL .seq 73 (sq 2 8) 33 b26 0 0 (.agg #[.int .u64 ((k : Int) + 1), .int .u64 0, .I 1, .string (keys[k]), .slice a24 (datas[k]).length k25, .I 0, .slice none 0 0, .slice none 0 0, .I ((10 * (k : Int)) + 100), .I ((10 * (k : Int)) + 105)]) (H.cells 0 rfl) ?_
     refine qK .seq (some 74) (sq 3 8) 9 #[.P mb 0, .agg #[.int .u64 ((k : Int) + 1), .int .u64 0, .I 1, .string (keys[k]), .slice a24 (datas[k]).length k25, .I 0, .slice none 0 0, .slice none 0 0, .I ((10 * (k : Int)) + 100), .I ((10 * (k : Int)) + 105)]] (told_spec (H.fact 6 rfl) (H.rp 5 rfl) (x := ⟨(k : Int) + 1, 0, 1, keys[k], datas[k], 0, [], [], (10 * (k : Int)) + 100, (10 * (k : Int)) + 105⟩) (wop_mk (l0 := [.int .u64 ((k : Int) + 1)]) (y0 := (k : Int) + 1) (l1 := [.int .u64 0]) (y1 := 0) (l2 := [.I 1]) (y2 := 1) (l3 := [.string (keys[k])]) (y3 := keys[k]) (l4 := [.slice a24 (datas[k]).length k25]) (y4 := datas[k]) (l5 := [.I 0]) (y5 := 0) (l6 := [.slice none 0 0]) (y6 := []) (l7 := [.slice none 0 0]) (y7 := []) (l8 := [.I ((10 * (k : Int)) + 100)]) (y8 := (10 * (k : Int)) + 100) (l9 := [.I ((10 * (k : Int)) + 105)]) (y9 := (10 * (k : Int)) + 105) u64a (Shape.int_mk (by decide)) (Shape.int_mk (by decide)) ⟨rfl, hshr18⟩ (H.rp 2 rfl) (Shape.int_mk (by decide)) Shape.slice_nil Shape.slice_nil i64a i64a) (.inl rfl) (show ((10 * (k : Int)) + 105 : Int) ≠ 0 by omega) (by omega)) ?_
     rintro _ w82 - ⟨mb84, a85, c86, l87, cd83, rfl, hm88, hm89, hm90, H'⟩
     have H := H.back (M1 := []) (W1 := []) H'
     have H : Hp w S [] [(b26, .cells #[.int .u64 ((k : Int) + 1), .int .u64 0, .I 1, .string (keys[k]), .slice a24 (datas[k]).length k25, .I 0, .slice none 0 0, .slice none 0 0, .I ((10 * (k : Int)) + 100), .I ((10 * (k : Int)) + 105)] 33 (0, 0))] [⟨wopS, 33, .slice ah (hisK keys datas longer op k).length ch, hisK keys datas longer op k⟩, ⟨(Shape.int .i64), 3, .slice ao ((li (List.range k)).length) co, li (List.range k)⟩] [Fc mb84 0 [.slice a85 l87.length c86], Rp (Shape.slice prsS) [.slice a85 l87.length c86] l87, Rp SB [.slice a34 (datas[k]).length k35] (datas[k]), Fc b30 o31 [.slice a34 (datas[k]).length k35], Rp SB [.slice a24 (datas[k]).length k25] (datas[k]), Fc b20 o21 [.slice a24 (datas[k]).length k25], Fc b15 o16 [.string (keys[k])], Rp (Shape.slice prsS) [.slice al l.length cl] l, Fc mb 0 [.slice al l.length cl], Rp (Shape.slice Shape.str) [.slice ak keys.length ck] keys, Rp (Shape.slice SB) [.slice ad datas.length cq] datas, Rp (Shape.slice (Shape.int .i64)) [.slice aw longer.length cw] longer, Fz tabsQ] _ := H
     refine qP 3 (sq 6 8) [(0, .slice ak keys.length ck), (1, .slice ad datas.length cq), (2, .slice aw longer.length cw), (3, .I op), (9, .P mb 0), (10, .slice ah (hisK keys datas longer op k).length ch), (11, .slice ao ((li (List.range k)).length) co), (12, .I k), (13, .P b26 0), (75, .agg #[.int .u64 ((k : Int) + 1), .int .u64 0, .I 1, .string (keys[k]), .slice a24 (datas[k]).length k25, .I cd83, .slice none 0 0, .slice none 0 0, .I ((10 * (k : Int)) + 100), .I ((10 * (k : Int)) + 105)]), (76, .P mb84 0)] ?_
     refine qW 33 b26 0 (sq 7 8) (.agg #[.int .u64 ((k : Int) + 1), .int .u64 0, .I 1, .string (keys[k]), .slice a24 (datas[k]).length k25, .I cd83, .slice none 0 0, .slice none 0 0, .I ((10 * (k : Int)) + 100), .I ((10 * (k : Int)) + 105)]) [(b26, .cells #[.int .u64 ((k : Int) + 1), .int .u64 0, .I 1, .string (keys[k]), .slice a24 (datas[k]).length k25, .I cd83, .slice none 0 0, .slice none 0 0, .I ((10 * (k : Int)) + 100), .I ((10 * (k : Int)) + 105)] 33 (0, 0))] H 0 rfl rfl ?_
     intro w91 H
     refine qF 1 [(0, .slice ak keys.length ck), (1, .slice ad datas.length cq), (2, .slice aw longer.length cw), (3, .I op), (9, .P mb84 0), (10, .slice ah (hisK keys datas longer op k).length ch), (11, .slice ao ((li (List.range k)).length) co), (12, .I k), (13, .P b26 0)] ?_
     refine qR 1 [.c [5, 0, 1, 0, 0, 1, 0, 0, 3, 0], .c [5, 0, 1, 0, 0, 1, 0, 0, 4], .b 1, .c [5, 0, 1, 0, 0, 2], .l [5, 0, 1, 0, 0], .b 0, .c [6]] [(0, .slice ak keys.length ck), (1, .slice ad datas.length cq), (2, .slice aw longer.length cw), (3, .I op), (9, .P mb84 0), (10, .slice ah (hisK keys datas longer op k).length ch), (11, .slice ao ((li (List.range k)).length) co), (12, .I k), (13, .P b26 0)] ?_
     refine qG (sq 0 6) ?_
     refine qP 2 (sq 2 6) [(0, .slice ak keys.length ck), (1, .slice ad datas.length cq), (2, .slice aw longer.length cw), (3, .I op), (9, .P mb84 0), (10, .slice ah (hisK keys datas longer op k).length ch), (11, .slice ao ((li (List.range k)).length) co), (12, .I k), (13, .P b26 0), (77, .slice aw longer.length cw), (78, .I k)] ?_
     have hx92 : k < longer.length := by omega
     refine qX .seq 79 (sq 3 6) 36 3 (k : Int) (Shape.int .i64) (longer[k]) H 11 rfl k (by omega) (List.getElem?_eq_getElem hx92) ?_
     intro b93 o94 es95 hr96 H
     have hb97 := Shape.i64_bd hr96
     obtain ⟨rfl, -⟩ := hr96
     refine qL .seq 80 (sq 4 6) 3 b93 o94 0 (.I (longer[k])) (H.fc 0 rfl) ?_
     refine RW.pv (κ := .seq) (d := some 81) (r := (sq 5 6)) (v := .I (IntKind.i64.wrap ((BitVec.ofInt 64 (longer[k]) &&& BitVec.ofInt 64 63).toNat : Nat))) (v' := .I ((longer[k]) % 64)) (by as_aux_lemma => kernel_rfl) (and_i64 (j := 6) (m := 63) (by decide) (by decide)) ?_
     refine qF 1 [(0, .slice ak keys.length ck), (1, .slice ad datas.length cq), (2, .slice aw longer.length cw), (3, .I op), (9, .P mb84 0), (10, .slice ah (hisK keys datas longer op k).length ch), (11, .slice ao ((li (List.range k)).length) co), (12, .I k), (13, .P b26 0), (14, .I ((longer[k]) % 64))] ?_
     refine qR 1 [.c [5, 0, 1, 0, 0, 1, 0, 0, 4, 0], .c [5, 0, 1, 0, 0, 1, 0, 0, 5], .b 1, .c [5, 0, 1, 0, 0, 2], .l [5, 0, 1, 0, 0], .b 0, .c [6]] [(0, .slice ak keys.length ck), (1, .slice ad datas.length cq), (2, .slice aw longer.length cw), (3, .I op), (9, .P mb84 0), (10, .slice ah (hisK keys datas longer op k).length ch), (11, .slice ao ((li (List.range k)).length) co), (12, .I k), (13, .P b26 0), (14, .I ((longer[k]) % 64))] ?_
     refine qG (sq 0 7) ?_
     refine qP 1 (sq 1 7) [(0, .slice ak keys.length ck), (1, .slice ad datas.length cq), (2, .slice aw longer.length cw), (3, .I op), (9, .P mb84 0), (10, .slice ah (hisK keys datas longer op k).length ch), (11, .slice ao ((li (List.range k)).length) co), (12, .I k), (13, .P b26 0), (14, .I ((longer[k]) % 64)), (82, .P b26 8)] ?_
     refine qL .seq 83 (sq 2 7) 3 b26 8 8 (.I ((10 * (k : Int)) + 100)) (H.cells 0 rfl) ?_
     refine qP 1 (sq 3 7) [(0, .slice ak keys.length ck), (1, .slice ad datas.length cq), (2, .slice aw longer.length cw), (3, .I op), (9, .P mb84 0), (10, .slice ah (hisK keys datas longer op k).length ch), (11, .slice ao ((li (List.range k)).length) co), (12, .I k), (13, .P b26 0), (14, .I ((longer[k]) % 64)), (83, .I ((10 * (k : Int)) + 100)), (84, .I ((longer[k]) % 64))] ?_
     refine qI .seq 85 (sq 4 7) (((10 * (k : Int)) + 100) - ((longer[k]) % 64)) ?_
     refine qP 2 (sq 6 7) [(0, .slice ak keys.length ck), (1, .slice ad datas.length cq), (2, .slice aw longer.length cw), (3, .I op), (9, .P mb84 0), (10, .slice ah (hisK keys datas longer op k).length ch), (11, .slice ao ((li (List.range k)).length) co), (12, .I k), (13, .P b26 0), (14, .I ((longer[k]) % 64)), (86, .I (if ((10 * (k : Int)) + 100) - ((longer[k]) % 64) > 1 then ((10 * (k : Int)) + 100) - ((longer[k]) % 64) else 1)), (87, .P b26 8)] ?_
     refine qW 3 b26 8 (sq 7 7) (.I (if ((10 * (k : Int)) + 100) - ((longer[k]) % 64) > 1 then ((10 * (k : Int)) + 100) - ((longer[k]) % 64) else 1)) [(b26, .cells #[.int .u64 ((k : Int) + 1), .int .u64 0, .I 1, .string (keys[k]), .slice a24 (datas[k]).length k25, .I cd83, .slice none 0 0, .slice none 0 0, .I (if ((10 * (k : Int)) + 100) - ((longer[k]) % 64) > 1 then ((10 * (k : Int)) + 100) - ((longer[k]) % 64) else 1), .I ((10 * (k : Int)) + 105)] 33 (0, 0))] H 0 rfl rfl ?_
     intro w98 H
     refine qF 0 [(0, .slice ak keys.length ck), (1, .slice ad datas.length cq), (2, .slice aw longer.length cw), (3, .I op), (9, .P mb84 0), (10, .slice ah (hisK keys datas longer op k).length ch), (11, .slice ao ((li (List.range k)).length) co), (12, .I k), (13, .P b26 0), (14, .I ((longer[k]) % 64))] ?_
     refine qR 1 [.c [5, 0, 1, 0, 0, 1, 0, 0, 5, 0], .c [5, 0, 1, 0, 0, 1, 0, 0, 6], .b 1, .c [5, 0, 1, 0, 0, 2], .l [5, 0, 1, 0, 0], .b 0, .c [6]] [(0, .slice ak keys.length ck), (1, .slice ad datas.length cq), (2, .slice aw longer.length cw), (3, .I op), (9, .P mb84 0), (10, .slice ah (hisK keys datas longer op k).length ch), (11, .slice ao ((li (List.range k)).length) co), (12, .I k), (13, .P b26 0), (14, .I ((longer[k]) % 64))] ?_
     refine qG (sq 0 6) ?_
     refine qP 1 (sq 1 6) [(0, .slice ak keys.length ck), (1, .slice ad datas.length cq), (2, .slice aw longer.length cw), (3, .I op), (9, .P mb84 0), (10, .slice ah (hisK keys datas longer op k).length ch), (11, .slice ao ((li (List.range k)).length) co), (12, .I k), (13, .P b26 0), (14, .I ((longer[k]) % 64)), (88, .P b26 9)] ?_
     refine qL .seq 89 (sq 2 6) 3 b26 9 9 (.I ((10 * (k : Int)) + 105)) (H.cells 0 rfl) ?_
     refine qP 1 (sq 3 6) [(0, .slice ak keys.length ck), (1, .slice ad datas.length cq), (2, .slice aw longer.length cw), (3, .I op), (9, .P mb84 0), (10, .slice ah (hisK keys datas longer op k).length ch), (11, .slice ao ((li (List.range k)).length) co), (12, .I k), (13, .P b26 0), (89, .I ((10 * (k : Int)) + 105)), (90, .I ((longer[k]) % 64))] ?_
     refine qI .seq 91 (sq 4 6) (((10 * (k : Int)) + 105) + ((longer[k]) % 64)) ?_
     refine qP 1 (sq 5 6) [(0, .slice ak keys.length ck), (1, .slice ad datas.length cq), (2, .slice aw longer.length cw), (3, .I op), (9, .P mb84 0), (10, .slice ah (hisK keys datas longer op k).length ch), (11, .slice ao ((li (List.range k)).length) co), (12, .I k), (13, .P b26 0), (91, .I (((10 * (k : Int)) + 105) + ((longer[k]) % 64))), (92, .P b26 9)] ?_
     refine qW 3 b26 9 (sq 6 6) (.I (((10 * (k : Int)) + 105) + ((longer[k]) % 64))) [(b26, .cells #[.int .u64 ((k : Int) + 1), .int .u64 0, .I 1, .string (keys[k]), .slice a24 (datas[k]).length k25, .I cd83, .slice none 0 0, .slice none 0 0, .I (if ((10 * (k : Int)) + 100) - ((longer[k]) % 64) > 1 then ((10 * (k : Int)) + 100) - ((longer[k]) % 64) else 1), .I (((10 * (k : Int)) + 105) + ((longer[k]) % 64))] 33 (0, 0))] H 0 rfl rfl ?_
     intro w99 H
     refine qF 0 [(0, .slice ak keys.length ck), (1, .slice ad datas.length cq), (2, .slice aw longer.length cw), (3, .I op), (9, .P mb84 0), (10, .slice ah (hisK keys datas longer op k).length ch), (11, .slice ao ((li (List.range k)).length) co), (12, .I k), (13, .P b26 0)] ?_
     refine qR 3 [.c [5, 0, 1, 0, 0, 1, 0, 0, 6, 0, 1], .c [5, 0, 1, 0, 0, 1, 0, 0, 7], .b 1, .c [5, 0, 1, 0, 0, 2], .l [5, 0, 1, 0, 0], .b 0, .c [6]] [(0, .slice ak keys.length ck), (1, .slice ad datas.length cq), (2, .slice aw longer.length cw), (3, .I op), (9, .P mb84 0), (10, .slice ah (hisK keys datas longer op k).length ch), (11, .slice ao ((li (List.range k)).length) co), (12, .I k), (13, .P b26 0), (95, .bool ((k : Int) == op))] ?_
     refine qE (k : Int) op (fun h100 => ?_) (fun h100 => ?_)
     ·
      have hio : (k : Int) = op := h100
      refine qG (sq 0 2) ?_
      refine qP 1 (sq 1 2) [(0, .slice ak keys.length ck), (1, .slice ad datas.length cq), (2, .slice aw longer.length cw), (3, .I op), (9, .P mb84 0), (10, .slice ah (hisK keys datas longer op k).length ch), (11, .slice ao ((li (List.range k)).length) co), (12, .I k), (13, .P b26 0), (96, .P b26 5)] ?_
      refine qW 30 b26 5 (sq 2 2) (.I 6) [(b26, .cells #[.int .u64 ((k : Int) + 1), .int .u64 0, .I 1, .string (keys[k]), .slice a24 (datas[k]).length k25, .I 6, .slice none 0 0, .slice none 0 0, .I (if ((10 * (k : Int)) + 100) - ((longer[k]) % 64) > 1 then ((10 * (k : Int)) + 100) - ((longer[k]) % 64) else 1), .I (((10 * (k : Int)) + 105) + ((longer[k]) % 64))] 33 (0, 0))] H 0 rfl rfl ?_
      intro w101 H
      refine qF 0 [(0, .slice ak keys.length ck), (1, .slice ad datas.length cq), (2, .slice aw longer.length cw), (3, .I op), (9, .P mb84 0), (10, .slice ah (hisK keys datas longer op k).length ch), (11, .slice ao ((li (List.range k)).length) co), (12, .I k), (13, .P b26 0)] ?_
      refine qR 1 [.c [5, 0, 1, 0, 0, 1, 0, 0, 7, 0], .c [5, 0, 1, 0, 0, 1, 0, 0, 8], .b 1, .c [5, 0, 1, 0, 0, 2], .l [5, 0, 1, 0, 0], .b 0, .c [6]] [(0, .slice ak keys.length ck), (1, .slice ad datas.length cq), (2, .slice aw longer.length cw), (3, .I op), (9, .P mb84 0), (10, .slice ah (hisK keys datas longer op k).length ch), (11, .slice ao ((li (List.range k)).length) co), (12, .I k), (13, .P b26 0)] ?_
      refine qG (sq 0 5) ?_
      refine qP 1 (sq 1 5) [(0, .slice ak keys.length ck), (1, .slice ad datas.length cq), (2, .slice aw longer.length cw), (3, .I op), (9, .P mb84 0), (10, .slice ah (hisK keys datas longer op k).length ch), (11, .slice ao ((li (List.range k)).length) co), (12, .I k), (13, .P b26 0), (97, .slice ah (hisK keys datas longer op k).length ch)] ?_
      refine qL .seq 98 (sq 2 5) 33 b26 0 0 (.agg #[.int .u64 ((k : Int) + 1), .int .u64 0, .I 1, .string (keys[k]), .slice a24 (datas[k]).length k25, .I 6, .slice none 0 0, .slice none 0 0, .I (if ((10 * (k : Int)) + 100) - ((longer[k]) % 64) > 1 then ((10 * (k : Int)) + 100) - ((longer[k]) % 64) else 1), .I (((10 * (k : Int)) + 105) + ((longer[k]) % 64))]) (H.cells 0 rfl) ?_
      refine RW.new (κ := .seq) (d := some 99) (r := (sq 3 5)) (o := .cells #[.int .u64 ((k : Int) + 1), .int .u64 0, .I 1, .string (keys[k]), .slice a24 (datas[k]).length k25, .I 6, .slice none 0 0, .slice none 0 0, .I (if ((10 * (k : Int)) + 100) - ((longer[k]) % 64) > 1 then ((10 * (k : Int)) + 100) - ((longer[k]) % 64) else 1), .I (((10 * (k : Int)) + 105) + ((longer[k]) % 64))] 33 (0, 0)) (v := fun b => .slice (some ⟨b, 0, none⟩) 1 1) (fun b => by as_aux_lemma => kernel_rfl) (nofun) H ?_
      intro b102 w103 H
      have H := H.freeze 0 rfl wopS ([⟨(k : Int) + 1, 0, 1, keys[k], datas[k], 6, [], [], if ((10 * (k : Int)) + 100) - ((longer[k]) % 64) > 1 then ((10 * (k : Int)) + 100) - ((longer[k]) % 64) else 1, ((10 * (k : Int)) + 105) + ((longer[k]) % 64)⟩] : List Wop) 1 (by simp [maxLen]) (by first | exact Nat.le_refl _ | simp) (EsP.cons (c := [.int .u64 ((k : Int) + 1), .int .u64 0, .I 1, .string (keys[k]), .slice a24 (datas[k]).length k25, .I 6, .slice none 0 0, .slice none 0 0, .I (if ((10 * (k : Int)) + 100) - ((longer[k]) % 64) > 1 then ((10 * (k : Int)) + 100) - ((longer[k]) % 64) else 1), .I (((10 * (k : Int)) + 105) + ((longer[k]) % 64))]) (wop_mk (l0 := [.int .u64 ((k : Int) + 1)]) (y0 := (k : Int) + 1) (l1 := [.int .u64 0]) (y1 := 0) (l2 := [.I 1]) (y2 := 1) (l3 := [.string (keys[k])]) (y3 := keys[k]) (l4 := [.slice a24 (datas[k]).length k25]) (y4 := datas[k]) (l5 := [.I 6]) (y5 := 6) (l6 := [.slice none 0 0]) (y6 := []) (l7 := [.slice none 0 0]) (y7 := []) (l8 := [.I (if ((10 * (k : Int)) + 100) - ((longer[k]) % 64) > 1 then ((10 * (k : Int)) + 100) - ((longer[k]) % 64) else 1)]) (y8 := if ((10 * (k : Int)) + 100) - ((longer[k]) % 64) > 1 then ((10 * (k : Int)) + 100) - ((longer[k]) % 64) else 1) (l9 := [.I (((10 * (k : Int)) + 105) + ((longer[k]) % 64))]) (y9 := ((10 * (k : Int)) + 105) + ((longer[k]) % 64)) u64a (Shape.int_mk (by decide)) (Shape.int_mk (by decide)) ⟨rfl, hshr18⟩ (H.rp 5 rfl) (Shape.int_mk (by decide)) Shape.slice_nil Shape.slice_nil i64a i64a) EsP.nil)
      have H : Hp w S [] [(b26, .cells #[.int .u64 ((k : Int) + 1), .int .u64 0, .I 1, .string (keys[k]), .slice a24 (datas[k]).length k25, .I 6, .slice none 0 0, .slice none 0 0, .I (if ((10 * (k : Int)) + 100) - ((longer[k]) % 64) > 1 then ((10 * (k : Int)) + 100) - ((longer[k]) % 64) else 1), .I (((10 * (k : Int)) + 105) + ((longer[k]) % 64))] 33 (0, 0))] [⟨wopS, 33, .slice ah (hisK keys datas longer op k).length ch, hisK keys datas longer op k⟩, ⟨(Shape.int .i64), 3, .slice ao ((li (List.range k)).length) co, li (List.range k)⟩] [Rp (Shape.slice wopS) [.slice (some ⟨b102, 0, none⟩) 1 1] ([⟨(k : Int) + 1, 0, 1, keys[k], datas[k], 6, [], [], if ((10 * (k : Int)) + 100) - ((longer[k]) % 64) > 1 then ((10 * (k : Int)) + 100) - ((longer[k]) % 64) else 1, ((10 * (k : Int)) + 105) + ((longer[k]) % 64)⟩] : List Wop), Fc b93 o94 [.I (longer[k])], Fc mb84 0 [.slice a85 l87.length c86], Rp (Shape.slice prsS) [.slice a85 l87.length c86] l87, Rp SB [.slice a34 (datas[k]).length k35] (datas[k]), Fc b30 o31 [.slice a34 (datas[k]).length k35], Rp SB [.slice a24 (datas[k]).length k25] (datas[k]), Fc b20 o21 [.slice a24 (datas[k]).length k25], Fc b15 o16 [.string (keys[k])], Rp (Shape.slice prsS) [.slice al l.length cl] l, Fc mb 0 [.slice al l.length cl], Rp (Shape.slice Shape.str) [.slice ak keys.length ck] keys, Rp (Shape.slice SB) [.slice ad datas.length cq] datas, Rp (Shape.slice (Shape.int .i64)) [.slice aw longer.length cw] longer, Fz tabsQ] _ := H
      refine RW.appendW (d := some 100) (r := (sq 4 5)) (T := 22) (ty := 22) (e := 33) (m := 10) (by_ := 136) (v := .slice ah (hisK keys datas longer op k).length ch) (a2 := (some ⟨b102, 0, none⟩)) (l2 := 1) (c2 := 1) (zs := hisK keys datas longer op (k + 1)) (by as_aux_lemma => kernel_rfl) (by as_aux_lemma => kernel_rfl) rfl H 0 rfl 0 rfl (by rw [his_step hk1 hkd hkl]; congr 2; exact kn_put hde hm88 rfl _ ((if_pos hio).symm)) (by rw [his_len (by omega)]; omega) ?_
      intro a104 c105 w107 H hc106
      have H : Hp w S [] [(b26, .cells #[.int .u64 ((k : Int) + 1), .int .u64 0, .I 1, .string (keys[k]), .slice a24 (datas[k]).length k25, .I 6, .slice none 0 0, .slice none 0 0, .I (if ((10 * (k : Int)) + 100) - ((longer[k]) % 64) > 1 then ((10 * (k : Int)) + 100) - ((longer[k]) % 64) else 1), .I (((10 * (k : Int)) + 105) + ((longer[k]) % 64))] 33 (0, 0))] [⟨wopS, 33, .slice a104 ((hisK keys datas longer op (k + 1)).length) c105, hisK keys datas longer op (k + 1)⟩, ⟨(Shape.int .i64), 3, .slice ao ((li (List.range k)).length) co, li (List.range k)⟩] [Rp (Shape.slice wopS) [.slice (some ⟨b102, 0, none⟩) 1 1] ([⟨(k : Int) + 1, 0, 1, keys[k], datas[k], 6, [], [], if ((10 * (k : Int)) + 100) - ((longer[k]) % 64) > 1 then ((10 * (k : Int)) + 100) - ((longer[k]) % 64) else 1, ((10 * (k : Int)) + 105) + ((longer[k]) % 64)⟩] : List Wop), Fc b93 o94 [.I (longer[k])], Fc mb84 0 [.slice a85 l87.length c86], Rp (Shape.slice prsS) [.slice a85 l87.length c86] l87, Rp SB [.slice a34 (datas[k]).length k35] (datas[k]), Fc b30 o31 [.slice a34 (datas[k]).length k35], Rp SB [.slice a24 (datas[k]).length k25] (datas[k]), Fc b20 o21 [.slice a24 (datas[k]).length k25], Fc b15 o16 [.string (keys[k])], Rp (Shape.slice prsS) [.slice al l.length cl] l, Fc mb 0 [.slice al l.length cl], Rp (Shape.slice Shape.str) [.slice ak keys.length ck] keys, Rp (Shape.slice SB) [.slice ad datas.length cq] datas, Rp (Shape.slice (Shape.int .i64)) [.slice aw longer.length cw] longer, Fz tabsQ] _ := H
      refine qF 1 [(0, .slice ak keys.length ck), (1, .slice ad datas.length cq), (2, .slice aw longer.length cw), (3, .I op), (9, .P mb84 0), (10, .slice a104 ((hisK keys datas longer op (k + 1)).length) c105), (11, .slice ao ((li (List.range k)).length) co), (12, .I k)] ?_
      refine qG (sq 0 5) ?_
      refine qP 2 (sq 2 5) [(0, .slice ak keys.length ck), (1, .slice ad datas.length cq), (2, .slice aw longer.length cw), (3, .I op), (9, .P mb84 0), (10, .slice a104 ((hisK keys datas longer op (k + 1)).length) c105), (11, .slice ao ((li (List.range k)).length) co), (12, .I k), (101, .slice ao ((li (List.range k)).length) co), (102, .I k)] ?_
      refine RW.new (κ := .seq) (d := some 103) (r := (sq 3 5)) (o := .cells #[.I k] 3 (0, 0)) (v := fun b => .slice (some ⟨b, 0, none⟩) 1 1) (fun b => by as_aux_lemma => kernel_rfl) (nofun) H ?_
      intro b108 w109 H
      have H := H.freeze 0 rfl (Shape.int .i64) ([(k : Int)] : List Int) 1 (by simp [maxLen]) (by first | exact Nat.le_refl _ | simp) (EsP.cons (c := [.I k]) i64a EsP.nil)
      have H : Hp w S [] [(b26, .cells #[.int .u64 ((k : Int) + 1), .int .u64 0, .I 1, .string (keys[k]), .slice a24 (datas[k]).length k25, .I 6, .slice none 0 0, .slice none 0 0, .I (if ((10 * (k : Int)) + 100) - ((longer[k]) % 64) > 1 then ((10 * (k : Int)) + 100) - ((longer[k]) % 64) else 1), .I (((10 * (k : Int)) + 105) + ((longer[k]) % 64))] 33 (0, 0))] [⟨wopS, 33, .slice a104 ((hisK keys datas longer op (k + 1)).length) c105, hisK keys datas longer op (k + 1)⟩, ⟨(Shape.int .i64), 3, .slice ao ((li (List.range k)).length) co, li (List.range k)⟩] [Rp (Shape.slice (Shape.int .i64)) [.slice (some ⟨b108, 0, none⟩) 1 1] ([(k : Int)] : List Int), Rp (Shape.slice wopS) [.slice (some ⟨b102, 0, none⟩) 1 1] ([⟨(k : Int) + 1, 0, 1, keys[k], datas[k], 6, [], [], if ((10 * (k : Int)) + 100) - ((longer[k]) % 64) > 1 then ((10 * (k : Int)) + 100) - ((longer[k]) % 64) else 1, ((10 * (k : Int)) + 105) + ((longer[k]) % 64)⟩] : List Wop), Fc b93 o94 [.I (longer[k])], Fc mb84 0 [.slice a85 l87.length c86], Rp (Shape.slice prsS) [.slice a85 l87.length c86] l87, Rp SB [.slice a34 (datas[k]).length k35] (datas[k]), Fc b30 o31 [.slice a34 (datas[k]).length k35], Rp SB [.slice a24 (datas[k]).length k25] (datas[k]), Fc b20 o21 [.slice a24 (datas[k]).length k25], Fc b15 o16 [.string (keys[k])], Rp (Shape.slice prsS) [.slice al l.length cl] l, Fc mb 0 [.slice al l.length cl], Rp (Shape.slice Shape.str) [.slice ak keys.length ck] keys, Rp (Shape.slice SB) [.slice ad datas.length cq] datas, Rp (Shape.slice (Shape.int .i64)) [.slice aw longer.length cw] longer, Fz tabsQ] _ := H
      refine RW.appendW (d := some 104) (r := (sq 4 5)) (T := 36) (ty := 36) (e := 3) (m := 1) (by_ := 8) (v := .slice ao ((li (List.range k)).length) co) (a2 := (some ⟨b108, 0, none⟩)) (l2 := 1) (c2 := 1) (zs := li (List.range (k + 1))) (by as_aux_lemma => kernel_rfl) (by as_aux_lemma => kernel_rfl) rfl H 1 rfl 0 rfl (li_range_snoc k) (by rw [li_len, List.length_range]; omega) ?_
      intro a110 c111 w113 H hc112
      have H : Hp w S [] [(b26, .cells #[.int .u64 ((k : Int) + 1), .int .u64 0, .I 1, .string (keys[k]), .slice a24 (datas[k]).length k25, .I 6, .slice none 0 0, .slice none 0 0, .I (if ((10 * (k : Int)) + 100) - ((longer[k]) % 64) > 1 then ((10 * (k : Int)) + 100) - ((longer[k]) % 64) else 1), .I (((10 * (k : Int)) + 105) + ((longer[k]) % 64))] 33 (0, 0))] [⟨wopS, 33, .slice a104 ((hisK keys datas longer op (k + 1)).length) c105, hisK keys datas longer op (k + 1)⟩, ⟨(Shape.int .i64), 3, .slice a110 ((li (List.range (k + 1))).length) c111, li (List.range (k + 1))⟩] [Rp (Shape.slice (Shape.int .i64)) [.slice (some ⟨b108, 0, none⟩) 1 1] ([(k : Int)] : List Int), Rp (Shape.slice wopS) [.slice (some ⟨b102, 0, none⟩) 1 1] ([⟨(k : Int) + 1, 0, 1, keys[k], datas[k], 6, [], [], if ((10 * (k : Int)) + 100) - ((longer[k]) % 64) > 1 then ((10 * (k : Int)) + 100) - ((longer[k]) % 64) else 1, ((10 * (k : Int)) + 105) + ((longer[k]) % 64)⟩] : List Wop), Fc b93 o94 [.I (longer[k])], Fc mb84 0 [.slice a85 l87.length c86], Rp (Shape.slice prsS) [.slice a85 l87.length c86] l87, Rp SB [.slice a34 (datas[k]).length k35] (datas[k]), Fc b30 o31 [.slice a34 (datas[k]).length k35], Rp SB [.slice a24 (datas[k]).length k25] (datas[k]), Fc b20 o21 [.slice a24 (datas[k]).length k25], Fc b15 o16 [.string (keys[k])], Rp (Shape.slice prsS) [.slice al l.length cl] l, Fc mb 0 [.slice al l.length cl], Rp (Shape.slice Shape.str) [.slice ak keys.length ck] keys, Rp (Shape.slice SB) [.slice ad datas.length cq] datas, Rp (Shape.slice (Shape.int .i64)) [.slice aw longer.length cw] longer, Fz tabsQ] _ := H
      refine qF 1 [(0, .slice ak keys.length ck), (1, .slice ad datas.length cq), (2, .slice aw longer.length cw), (3, .I op), (9, .P mb84 0), (10, .slice a104 ((hisK keys datas longer op (k + 1)).length) c105), (11, .slice a110 ((li (List.range (k + 1))).length) c111), (12, .I k)] ?_
      refine qR 1 [.c [5, 0, 1, 0, 0, 2], .l [5, 0, 1, 0, 0], .b 0, .c [6]] [(0, .slice ak keys.length ck), (1, .slice ad datas.length cq), (2, .slice aw longer.length cw), (3, .I op), (9, .P mb84 0), (10, .slice a104 ((hisK keys datas longer op (k + 1)).length) c105), (11, .slice a110 ((li (List.range (k + 1))).length) c111), (12, .I k)] ?_
      refine qG (sq 0 3) ?_
      refine qP 1 (sq 1 3) [(0, .slice ak keys.length ck), (1, .slice ad datas.length cq), (2, .slice aw longer.length cw), (3, .I op), (9, .P mb84 0), (10, .slice a104 ((hisK keys datas longer op (k + 1)).length) c105), (11, .slice a110 ((li (List.range (k + 1))).length) c111), (12, .I k), (44, .I k)] ?_
      refine qI .seq 45 (sq 2 3) ((k : Int) + 1) ?_
      refine qF 1 [(0, .slice ak keys.length ck), (1, .slice ad datas.length cq), (2, .slice aw longer.length cw), (3, .I op), (9, .P mb84 0), (10, .slice a104 ((hisK keys datas longer op (k + 1)).length) c105), (11, .slice a110 ((li (List.range (k + 1))).length) c111), (12, .I ((k : Int) + 1))] ?_
      have H := H.pick [4, 3, 12, 13, 14, 15] rfl
      have H := H.drop (M' := []) (W' := [⟨wopS, 33, .slice a104 ((hisK keys datas longer op (k + 1)).length) c105, hisK keys datas longer op (k + 1)⟩, ⟨(Shape.int .i64), 3, .slice a110 ((li (List.range (k + 1))).length) c111, li (List.range (k + 1))⟩]) (by repeat (first | exact List.Sublist.refl _ | apply List.Sublist.cons_cons | apply List.Sublist.cons)) (by repeat (first | exact List.Sublist.refl _ | apply List.Sublist.cons_cons | apply List.Sublist.cons))
      exact WK.back (hback10 (k + 1, mb84, a85, c86, l87, a104, c105, a110, c111) _ ⟨H, by omega, by omega, by rw [tb_step hk1 hkd hkl]; rw [if_neg hde]; exact step_put hinv0.2.2 (by have h9 := hm90; unfold nextB at h9; rwa [if_pos (show (1 : Int) = 1 from rfl)] at h9)⟩ (by first | omega | (simp only []; omega))) (by as_aux_lemma => kernel_rfl)
     ·
      have hio : ¬ (k : Int) = op := h100
      refine qR 2 [.c [5, 0, 1, 0, 0, 1, 0, 0, 7, 0], .c [5, 0, 1, 0, 0, 1, 0, 0, 8], .b 1, .c [5, 0, 1, 0, 0, 2], .l [5, 0, 1, 0, 0], .b 0, .c [6]] [(0, .slice ak keys.length ck), (1, .slice ad datas.length cq), (2, .slice aw longer.length cw), (3, .I op), (9, .P mb84 0), (10, .slice ah (hisK keys datas longer op k).length ch), (11, .slice ao ((li (List.range k)).length) co), (12, .I k), (13, .P b26 0)] ?_
      refine qG (sq 0 5) ?_
      refine qP 1 (sq 1 5) [(0, .slice ak keys.length ck), (1, .slice ad datas.length cq), (2, .slice aw longer.length cw), (3, .I op), (9, .P mb84 0), (10, .slice ah (hisK keys datas longer op k).length ch), (11, .slice ao ((li (List.range k)).length) co), (12, .I k), (13, .P b26 0), (97, .slice ah (hisK keys datas longer op k).length ch)] ?_
      refine qL .seq 98 (sq 2 5) 33 b26 0 0 (.agg #[.int .u64 ((k : Int) + 1), .int .u64 0, .I 1, .string (keys[k]), .slice a24 (datas[k]).length k25, .I cd83, .slice none 0 0, .slice none 0 0, .I (if ((10 * (k : Int)) + 100) - ((longer[k]) % 64) > 1 then ((10 * (k : Int)) + 100) - ((longer[k]) % 64) else 1), .I (((10 * (k : Int)) + 105) + ((longer[k]) % 64))]) (H.cells 0 rfl) ?_
      refine RW.new (κ := .seq) (d := some 99) (r := (sq 3 5)) (o := .cells #[.int .u64 ((k : Int) + 1), .int .u64 0, .I 1, .string (keys[k]), .slice a24 (datas[k]).length k25, .I cd83, .slice none 0 0, .slice none 0 0, .I (if ((10 * (k : Int)) + 100) - ((longer[k]) % 64) > 1 then ((10 * (k : Int)) + 100) - ((longer[k]) % 64) else 1), .I (((10 * (k : Int)) + 105) + ((longer[k]) % 64))] 33 (0, 0)) (v := fun b => .slice (some ⟨b, 0, none⟩) 1 1) (fun b => by as_aux_lemma => kernel_rfl) (nofun) H ?_
      intro b114 w115 H
      have H := H.freeze 0 rfl wopS ([⟨(k : Int) + 1, 0, 1, keys[k], datas[k], cd83, [], [], if ((10 * (k : Int)) + 100) - ((longer[k]) % 64) > 1 then ((10 * (k : Int)) + 100) - ((longer[k]) % 64) else 1, ((10 * (k : Int)) + 105) + ((longer[k]) % 64)⟩] : List Wop) 1 (by simp [maxLen]) (by first | exact Nat.le_refl _ | simp) (EsP.cons (c := [.int .u64 ((k : Int) + 1), .int .u64 0, .I 1, .string (keys[k]), .slice a24 (datas[k]).length k25, .I cd83, .slice none 0 0, .slice none 0 0, .I (if ((10 * (k : Int)) + 100) - ((longer[k]) % 64) > 1 then ((10 * (k : Int)) + 100) - ((longer[k]) % 64) else 1), .I (((10 * (k : Int)) + 105) + ((longer[k]) % 64))]) (wop_mk (l0 := [.int .u64 ((k : Int) + 1)]) (y0 := (k : Int) + 1) (l1 := [.int .u64 0]) (y1 := 0) (l2 := [.I 1]) (y2 := 1) (l3 := [.string (keys[k])]) (y3 := keys[k]) (l4 := [.slice a24 (datas[k]).length k25]) (y4 := datas[k]) (l5 := [.I cd83]) (y5 := cd83) (l6 := [.slice none 0 0]) (y6 := []) (l7 := [.slice none 0 0]) (y7 := []) (l8 := [.I (if ((10 * (k : Int)) + 100) - ((longer[k]) % 64) > 1 then ((10 * (k : Int)) + 100) - ((longer[k]) % 64) else 1)]) (y8 := if ((10 * (k : Int)) + 100) - ((longer[k]) % 64) > 1 then ((10 * (k : Int)) + 100) - ((longer[k]) % 64) else 1) (l9 := [.I (((10 * (k : Int)) + 105) + ((longer[k]) % 64))]) (y9 := ((10 * (k : Int)) + 105) + ((longer[k]) % 64)) u64a (Shape.int_mk (by decide)) (Shape.int_mk (by decide)) ⟨rfl, hshr18⟩ (H.rp 5 rfl) i64a Shape.slice_nil Shape.slice_nil i64a i64a) EsP.nil)
      have H : Hp w S [] [(b26, .cells #[.int .u64 ((k : Int) + 1), .int .u64 0, .I 1, .string (keys[k]), .slice a24 (datas[k]).length k25, .I cd83, .slice none 0 0, .slice none 0 0, .I (if ((10 * (k : Int)) + 100) - ((longer[k]) % 64) > 1 then ((10 * (k : Int)) + 100) - ((longer[k]) % 64) else 1), .I (((10 * (k : Int)) + 105) + ((longer[k]) % 64))] 33 (0, 0))] [⟨wopS, 33, .slice ah (hisK keys datas longer op k).length ch, hisK keys datas longer op k⟩, ⟨(Shape.int .i64), 3, .slice ao ((li (List.range k)).length) co, li (List.range k)⟩] [Rp (Shape.slice wopS) [.slice (some ⟨b114, 0, none⟩) 1 1] ([⟨(k : Int) + 1, 0, 1, keys[k], datas[k], cd83, [], [], if ((10 * (k : Int)) + 100) - ((longer[k]) % 64) > 1 then ((10 * (k : Int)) + 100) - ((longer[k]) % 64) else 1, ((10 * (k : Int)) + 105) + ((longer[k]) % 64)⟩] : List Wop), Fc b93 o94 [.I (longer[k])], Fc mb84 0 [.slice a85 l87.length c86], Rp (Shape.slice prsS) [.slice a85 l87.length c86] l87, Rp SB [.slice a34 (datas[k]).length k35] (datas[k]), Fc b30 o31 [.slice a34 (datas[k]).length k35], Rp SB [.slice a24 (datas[k]).length k25] (datas[k]), Fc b20 o21 [.slice a24 (datas[k]).length k25], Fc b15 o16 [.string (keys[k])], Rp (Shape.slice prsS) [.slice al l.length cl] l, Fc mb 0 [.slice al l.length cl], Rp (Shape.slice Shape.str) [.slice ak keys.length ck] keys, Rp (Shape.slice SB) [.slice ad datas.length cq] datas, Rp (Shape.slice (Shape.int .i64)) [.slice aw longer.length cw] longer, Fz tabsQ] _ := H
      refine RW.appendW (d := some 100) (r := (sq 4 5)) (T := 22) (ty := 22) (e := 33) (m := 10) (by_ := 136) (v := .slice ah (hisK keys datas longer op k).length ch) (a2 := (some ⟨b114, 0, none⟩)) (l2 := 1) (c2 := 1) (zs := hisK keys datas longer op (k + 1)) (by as_aux_lemma => kernel_rfl) (by as_aux_lemma => kernel_rfl) rfl H 0 rfl 0 rfl (by rw [his_step hk1 hkd hkl]; congr 2; exact kn_put hde hm88 rfl _ ((if_neg hio).symm)) (by rw [his_len (by omega)]; omega) ?_
      intro a116 c117 w119 H hc118
      have H : Hp w S [] [(b26, .cells #[.int .u64 ((k : Int) + 1), .int .u64 0, .I 1, .string (keys[k]), .slice a24 (datas[k]).length k25, .I cd83, .slice none 0 0, .slice none 0 0, .I (if ((10 * (k : Int)) + 100) - ((longer[k]) % 64) > 1 then ((10 * (k : Int)) + 100) - ((longer[k]) % 64) else 1), .I (((10 * (k : Int)) + 105) + ((longer[k]) % 64))] 33 (0, 0))] [⟨wopS, 33, .slice a116 ((hisK keys datas longer op (k + 1)).length) c117, hisK keys datas longer op (k + 1)⟩, ⟨(Shape.int .i64), 3, .slice ao ((li (List.range k)).length) co, li (List.range k)⟩] [Rp (Shape.slice wopS) [.slice (some ⟨b114, 0, none⟩) 1 1] ([⟨(k : Int) + 1, 0, 1, keys[k], datas[k], cd83, [], [], if ((10 * (k : Int)) + 100) - ((longer[k]) % 64) > 1 then ((10 * (k : Int)) + 100) - ((longer[k]) % 64) else 1, ((10 * (k : Int)) + 105) + ((longer[k]) % 64)⟩] : List Wop), Fc b93 o94 [.I (longer[k])], Fc mb84 0 [.slice a85 l87.length c86], Rp (Shape.slice prsS) [.slice a85 l87.length c86] l87, Rp SB [.slice a34 (datas[k]).length k35] (datas[k]), Fc b30 o31 [.slice a34 (datas[k]).length k35], Rp SB [.slice a24 (datas[k]).length k25] (datas[k]), Fc b20 o21 [.slice a24 (datas[k]).length k25], Fc b15 o16 [.string (keys[k])], Rp (Shape.slice prsS) [.slice al l.length cl] l, Fc mb 0 [.slice al l.length cl], Rp (Shape.slice Shape.str) [.slice ak keys.length ck] keys, Rp (Shape.slice SB) [.slice ad datas.length cq] datas, Rp (Shape.slice (Shape.int .i64)) [.slice aw longer.length cw] longer, Fz tabsQ] _ := H
      refine qF 1 [(0, .slice ak keys.length ck), (1, .slice ad datas.length cq), (2, .slice aw longer.length cw), (3, .I op), (9, .P mb84 0), (10, .slice a116 ((hisK keys datas longer op (k + 1)).length) c117), (11, .slice ao ((li (List.range k)).length) co), (12, .I k)] ?_
      refine qG (sq 0 5) ?_
      refine qP 2 (sq 2 5) [(0, .slice ak keys.length ck), (1, .slice ad datas.length cq), (2, .slice aw longer.length cw), (3, .I op), (9, .P mb84 0), (10, .slice a116 ((hisK keys datas longer op (k + 1)).length) c117), (11, .slice ao ((li (List.range k)).length) co), (12, .I k), (101, .slice ao ((li (List.range k)).length) co), (102, .I k)] ?_
      refine RW.new (κ := .seq) (d := some 103) (r := (sq 3 5)) (o := .cells #[.I k] 3 (0, 0)) (v := fun b => .slice (some ⟨b, 0, none⟩) 1 1) (fun b => by as_aux_lemma => kernel_rfl) (nofun) H ?_
      intro b120 w121 H
      have H := H.freeze 0 rfl (Shape.int .i64) ([(k : Int)] : List Int) 1 (by simp [maxLen]) (by first | exact Nat.le_refl _ | simp) (EsP.cons (c := [.I k]) i64a EsP.nil)
      have H : Hp w S [] [(b26, .cells #[.int .u64 ((k : Int) + 1), .int .u64 0, .I 1, .string (keys[k]), .slice a24 (datas[k]).length k25, .I cd83, .slice none 0 0, .slice none 0 0, .I (if ((10 * (k : Int)) + 100) - ((longer[k]) % 64) > 1 then ((10 * (k : Int)) + 100) - ((longer[k]) % 64) else 1), .I (((10 * (k : Int)) + 105) + ((longer[k]) % 64))] 33 (0, 0))] [⟨wopS, 33, .slice a116 ((hisK keys datas longer op (k + 1)).length) c117, hisK keys datas longer op (k + 1)⟩, ⟨(Shape.int .i64), 3, .slice ao ((li (List.range k)).length) co, li (List.range k)⟩] [Rp (Shape.slice (Shape.int .i64)) [.slice (some ⟨b120, 0, none⟩) 1 1] ([(k : Int)] : List Int), Rp (Shape.slice wopS) [.slice (some ⟨b114, 0, none⟩) 1 1] ([⟨(k : Int) + 1, 0, 1, keys[k], datas[k], cd83, [], [], if ((10 * (k : Int)) + 100) - ((longer[k]) % 64) > 1 then ((10 * (k : Int)) + 100) - ((longer[k]) % 64) else 1, ((10 * (k : Int)) + 105) + ((longer[k]) % 64)⟩] : List Wop), Fc b93 o94 [.I (longer[k])], Fc mb84 0 [.slice a85 l87.length c86], Rp (Shape.slice prsS) [.slice a85 l87.length c86] l87, Rp SB [.slice a34 (datas[k]).length k35] (datas[k]), Fc b30 o31 [.slice a34 (datas[k]).length k35], Rp SB [.slice a24 (datas[k]).length k25] (datas[k]), Fc b20 o21 [.slice a24 (datas[k]).length k25], Fc b15 o16 [.string (keys[k])], Rp (Shape.slice prsS) [.slice al l.length cl] l, Fc mb 0 [.slice al l.length cl], Rp (Shape.slice Shape.str) [.slice ak keys.length ck] keys, Rp (Shape.slice SB) [.slice ad datas.length cq] datas, Rp (Shape.slice (Shape.int .i64)) [.slice aw longer.length cw] longer, Fz tabsQ] _ := H
      refine RW.appendW (d := some 104) (r := (sq 4 5)) (T := 36) (ty := 36) (e := 3) (m := 1) (by_ := 8) (v := .slice ao ((li (List.range k)).length) co) (a2 := (some ⟨b120, 0, none⟩)) (l2 := 1) (c2 := 1) (zs := li (List.range (k + 1))) (by as_aux_lemma => kernel_rfl) (by as_aux_lemma => kernel_rfl) rfl H 1 rfl 0 rfl (li_range_snoc k) (by rw [li_len, List.length_range]; omega) ?_
      intro a122 c123 w125 H hc124
      have H : Hp w S [] [(b26, .cells #[.int .u64 ((k : Int) + 1), .int .u64 0, .I 1, .string (keys[k]), .slice a24 (datas[k]).length k25, .I cd83, .slice none 0 0, .slice none 0 0, .I (if ((10 * (k : Int)) + 100) - ((longer[k]) % 64) > 1 then ((10 * (k : Int)) + 100) - ((longer[k]) % 64) else 1), .I (((10 * (k : Int)) + 105) + ((longer[k]) % 64))] 33 (0, 0))] [⟨wopS, 33, .slice a116 ((hisK keys datas longer op (k + 1)).length) c117, hisK keys datas longer op (k + 1)⟩, ⟨(Shape.int .i64), 3, .slice a122 ((li (List.range (k + 1))).length) c123, li (List.range (k + 1))⟩] [Rp (Shape.slice (Shape.int .i64)) [.slice (some ⟨b120, 0, none⟩) 1 1] ([(k : Int)] : List Int), Rp (Shape.slice wopS) [.slice (some ⟨b114, 0, none⟩) 1 1] ([⟨(k : Int) + 1, 0, 1, keys[k], datas[k], cd83, [], [], if ((10 * (k : Int)) + 100) - ((longer[k]) % 64) > 1 then ((10 * (k : Int)) + 100) - ((longer[k]) % 64) else 1, ((10 * (k : Int)) + 105) + ((longer[k]) % 64)⟩] : List Wop), Fc b93 o94 [.I (longer[k])], Fc mb84 0 [.slice a85 l87.length c86], Rp (Shape.slice prsS) [.slice a85 l87.length c86] l87, Rp SB [.slice a34 (datas[k]).length k35] (datas[k]), Fc b30 o31 [.slice a34 (datas[k]).length k35], Rp SB [.slice a24 (datas[k]).length k25] (datas[k]), Fc b20 o21 [.slice a24 (datas[k]).length k25], Fc b15 o16 [.string (keys[k])], Rp (Shape.slice prsS) [.slice al l.length cl] l, Fc mb 0 [.slice al l.length cl], Rp (Shape.slice Shape.str) [.slice ak keys.length ck] keys, Rp (Shape.slice SB) [.slice ad datas.length cq] datas, Rp (Shape.slice (Shape.int .i64)) [.slice aw longer.length cw] longer, Fz tabsQ] _ := H
      refine qF 1 [(0, .slice ak keys.length ck), (1, .slice ad datas.length cq), (2, .slice aw longer.length cw), (3, .I op), (9, .P mb84 0), (10, .slice a116 ((hisK keys datas longer op (k + 1)).length) c117), (11, .slice a122 ((li (List.range (k + 1))).length) c123), (12, .I k)] ?_
      refine qR 1 [.c [5, 0, 1, 0, 0, 2], .l [5, 0, 1, 0, 0], .b 0, .c [6]] [(0, .slice ak keys.length ck), (1, .slice ad datas.length cq), (2, .slice aw longer.length cw), (3, .I op), (9, .P mb84 0), (10, .slice a116 ((hisK keys datas longer op (k + 1)).length) c117), (11, .slice a122 ((li (List.range (k + 1))).length) c123), (12, .I k)] ?_
      refine qG (sq 0 3) ?_
      refine qP 1 (sq 1 3) [(0, .slice ak keys.length ck), (1, .slice ad datas.length cq), (2, .slice aw longer.length cw), (3, .I op), (9, .P mb84 0), (10, .slice a116 ((hisK keys datas longer op (k + 1)).length) c117), (11, .slice a122 ((li (List.range (k + 1))).length) c123), (12, .I k), (44, .I k)] ?_
      refine qI .seq 45 (sq 2 3) ((k : Int) + 1) ?_
      refine qF 1 [(0, .slice ak keys.length ck), (1, .slice ad datas.length cq), (2, .slice aw longer.length cw), (3, .I op), (9, .P mb84 0), (10, .slice a116 ((hisK keys datas longer op (k + 1)).length) c117), (11, .slice a122 ((li (List.range (k + 1))).length) c123), (12, .I ((k : Int) + 1))] ?_
      have H := H.pick [4, 3, 12, 13, 14, 15] rfl
      have H := H.drop (M' := []) (W' := [⟨wopS, 33, .slice a116 ((hisK keys datas longer op (k + 1)).length) c117, hisK keys datas longer op (k + 1)⟩, ⟨(Shape.int .i64), 3, .slice a122 ((li (List.range (k + 1))).length) c123, li (List.range (k + 1))⟩]) (by repeat (first | exact List.Sublist.refl _ | apply List.Sublist.cons_cons | apply List.Sublist.cons)) (by repeat (first | exact List.Sublist.refl _ | apply List.Sublist.cons_cons | apply List.Sublist.cons))
      exact WK.back (hback10 (k + 1, mb84, a85, c86, l87, a116, c117, a122, c123) _ ⟨H, by omega, by omega, by rw [tb_step hk1 hkd hkl]; rw [if_neg hde]; exact step_put hinv0.2.2 (by have h9 := hm90; unfold nextB at h9; rwa [if_pos (show (1 : Int) = 1 from rfl)] at h9)⟩ (by first | omega | (simp only []; omega))) (by as_aux_lemma => kernel_rfl)
   ·
    obtain rfl : k = keys.length := by omega
    have hrt := his_right (datas := datas) (longer := longer) (op := op) hg.1 keys.length
    have hl1 := legalH_right hrt
    refine qR 2 [.c [6, 0], .c [7]] [(10, .slice ah (hisK keys datas longer op keys.length).length ch), (11, .slice ao ((li (List.range keys.length)).length) co)] ?_
    refine qG (sq 0 7) ?_
    refine qP 1 (sq 1 7) [(10, .slice ah (hisK keys datas longer op keys.length).length ch), (11, .slice ao ((li (List.range keys.length)).length) co), (106, .slice ah (hisK keys datas longer op keys.length).length ch)] ?_
    have H : Hp w S [] [] [⟨(Shape.int .i64), 3, .slice ao ((li (List.range keys.length)).length) co, li (List.range keys.length)⟩] [Rp (Shape.slice wopS) [.slice ah (hisK keys datas longer op keys.length).length ch] (hisK keys datas longer op keys.length), Rp (Shape.slice prsS) [.slice al l.length cl] l, Fc mb 0 [.slice al l.length cl], Rp (Shape.slice Shape.str) [.slice ak keys.length ck] keys, Rp (Shape.slice SB) [.slice ad datas.length cq] datas, Rp (Shape.slice (Shape.int .i64)) [.slice aw longer.length cw] longer, Fz tabsQ] _ := H.freezeW 0 rfl
    refine qK .seq (some 107) (sq 2 7) 7 #[.slice ah (hisK keys datas longer op keys.length).length ch] (legal_spec (hs := hisK keys datas longer op keys.length) (H.rp 0 rfl) ((his_sz hKz hDz hg.2.1)) (H.fact 6 rfl)) ?_
    rintro _ w126 hE127 ⟨bl128, el129, rfl, hj130⟩
    have H := H.ext hE127
    refine qF 5 [(10, .slice ah (hisK keys datas longer op keys.length).length ch), (11, .slice ao ((li (List.range keys.length)).length) co), (15, .bool bl128), (16, .I el129)] ?_
    refine qR 1 [.c [7, 0], .c [8]] [(10, .slice ah (hisK keys datas longer op keys.length).length ch), (11, .slice ao ((li (List.range keys.length)).length) co), (15, .bool bl128), (16, .I el129)] ?_
    refine qG (sq 0 9) ?_
    refine qP 1 (sq 1 9) [(10, .slice ah (hisK keys datas longer op keys.length).length ch), (11, .slice ao ((li (List.range keys.length)).length) co), (15, .bool bl128), (16, .I el129), (111, .slice ah (hisK keys datas longer op keys.length).length ch)] ?_
    refine qK .seq (some 112) (sq 2 9) 10 #[.slice ah (hisK keys datas longer op keys.length).length ch] (order_spec (hs := hisK keys datas longer op keys.length) (H.rp 0 rfl) (his_sz hKz hDz hg.2.1) (H.fact 6 rfl)) ?_
    rintro _ w131 hE132 ⟨lv133, bo134, eo135, rfl, hj136⟩
    have H := H.ext hE132
    refine qF 7 [(10, .slice ah (hisK keys datas longer op keys.length).length ch), (11, .slice ao ((li (List.range keys.length)).length) co), (15, .bool bl128), (16, .I el129), (18, .bool bo134), (19, .I eo135)] ?_
    refine qR 1 [.c [8, 0], .c [9]] [(10, .slice ah (hisK keys datas longer op keys.length).length ch), (11, .slice ao ((li (List.range keys.length)).length) co), (15, .bool bl128), (16, .I el129), (18, .bool bo134), (19, .I eo135)] ?_
    refine qG (sq 0 21) ?_
    refine qP 2 (sq 2 21) [(10, .slice ah (hisK keys datas longer op keys.length).length ch), (11, .slice ao ((li (List.range keys.length)).length) co), (16, .I el129), (18, .bool bo134), (19, .I eo135), (117, .bool bl128)] ?_
    refine RW.test (fun b_ => [(10, .slice ah (hisK keys datas longer op keys.length).length ch), (11, .slice ao ((li (List.range keys.length)).length) co), (16, .I el129), (18, .bool bo134), (19, .I eo135), (117, .bool b_)]) bl128 (fun h137 => ?_) (fun h137 => ?_)
    ·
     refine qP 3 (sq 5 21) [(10, .slice ah (hisK keys datas longer op keys.length).length ch), (11, .slice ao ((li (List.range keys.length)).length) co), (16, .I el129), (19, .I eo135), (120, .bool bo134)] ?_
     refine RW.test (fun b_ => [(10, .slice ah (hisK keys datas longer op keys.length).length ch), (11, .slice ao ((li (List.range keys.length)).length) co), (16, .I el129), (19, .I eo135), (120, .bool b_)]) bo134 (fun h138 => ?_) (fun h138 => ?_)
     ·
      refine qP 4 (sq 9 21) [(10, .slice ah (hisK keys datas longer op keys.length).length ch), (11, .slice ao ((li (List.range keys.length)).length) co), (19, .I eo135), (124, .bool (el129 == 0))] ?_
      refine tE (fun b_ => [(10, .slice ah (hisK keys datas longer op keys.length).length ch), (11, .slice ao ((li (List.range keys.length)).length) co), (19, .I eo135), (124, .bool b_)]) el129 0 (fun h139 => ?_) (fun h139 => ?_)
      ·
       refine qP 4 (sq 13 21) [(10, .slice ah (hisK keys datas longer op keys.length).length ch), (11, .slice ao ((li (List.range keys.length)).length) co), (128, .bool (eo135 == 0))] ?_
       refine tE (fun b_ => [(10, .slice ah (hisK keys datas longer op keys.length).length ch), (11, .slice ao ((li (List.range keys.length)).length) co), (128, .bool b_)]) eo135 0 (fun h140 => ?_) (fun h140 => ?_)
       ·
        refine qP 2 (sq 15 21) [(128, .bool true), (129, .slice ah (hisK keys datas longer op keys.length).length ch), (130, .slice ao ((li (List.range keys.length)).length) co)] ?_
        have H : Hp w S [] [] [] [Rp (Shape.slice (Shape.int .i64)) [.slice ao ((li (List.range keys.length)).length) co] (li (List.range keys.length)), Rp (Shape.slice wopS) [.slice ah (hisK keys datas longer op keys.length).length ch] (hisK keys datas longer op keys.length), Rp (Shape.slice prsS) [.slice al l.length cl] l, Fc mb 0 [.slice al l.length cl], Rp (Shape.slice Shape.str) [.slice ak keys.length ck] keys, Rp (Shape.slice SB) [.slice ad datas.length cq] datas, Rp (Shape.slice (Shape.int .i64)) [.slice aw longer.length cw] longer, Fz tabsQ] _ := H.freezeW 0 rfl
        refine qK .seq (some 131) (sq 16 21) 11 #[.slice ah (hisK keys datas longer op keys.length).length ch, .slice ao ((li (List.range keys.length)).length) co] (rightN_spec (hs := hisK keys datas longer op keys.length) (H.rp 1 rfl) (his_len (Nat.le_refl _)).symm (H.rp 0 rfl) hrt (his_sz hKz hDz hg.2.1)) ?_
        rintro _ w141 hE142 hv9
        have H := H.ext hE142
        subst hv9
        refine qP 2 (sq 18 21) [(133, .bool true)] ?_
        refine qK .seq (some 134) (sq 19 21) 8 #[] (heads_spec (H.fact 7 rfl)) ?_
        rintro _ w143 hE144 rfl
        have H := H.ext hE144
        refine qF 2 [(8, .bool true)] ?_
        refine qT (.bool true) Tryd.func5 ?_
        exact ⟨_, rfl, H.done, rfl⟩
       ·
        exact absurd (judged_t hj136 hl1).2 h140
      ·
       exact absurd (judged_t hj130 hl1).2 h139
     ·
      exact absurd (judged_t hj136 hl1).1 (by simp [*])
    ·
     exact absurd (judged_t hj130 hl1).1 (by simp [*])
end Go.Proofs.YtcodkepdolmmbaaDoor
