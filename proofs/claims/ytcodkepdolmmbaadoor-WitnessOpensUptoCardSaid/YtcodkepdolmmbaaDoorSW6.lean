import Derived.Test.YtcodkepdolmmbaaDoorSW5
import Derived.Test.YtcodkepdolmmbaaDoorSBxA
namespace Go.Proofs.YtcodkepdolmmbaaDoor
open Go.BX
def szH (hs : List Wop) : Prop := ∀ x ∈ hs, x.key.size ≤ 1048576 ∧ x.data.length ≤ 1048576
def MemoOk (hs : List Wop) (stk : List (List Nat × Tb)) (TL : List (ByteArray × Int × Nat)) : Prop := ∀ e ∈ TL, ∃ l S, e.1 = keyB Lib.goPrintTabs l S ∧ (∀ i ∈ l, i < 100) ∧ (¬ Ex (l.map (hat hs)) S ∨ (l, S) ∈ stk)
theorem MemoOk.nil (hs : List Wop) : MemoOk hs [] [] := fun _ h => by cases h
theorem mset_mem {k : ByteArray} {v : Int} {c : Nat} : ∀ {L : List (ByteArray × Int × Nat)} {e : ByteArray × Int × Nat}, e ∈ mset k v c L → e.1 = k ∨ e ∈ L
 | [], e, h => by rcases List.mem_cons.1 h with rfl | h; exact .inl rfl; cases h
 | x :: l, e, h => by
  unfold mset at h
  by_cases he : x.1 = k
  · rw [if_pos he] at h
    rcases List.mem_cons.1 h with rfl | h
    · exact .inl rfl
    · exact .inr (List.mem_cons_of_mem _ h)
  · rw [if_neg he] at h
    rcases List.mem_cons.1 h with rfl | h
    · exact .inr (List.mem_cons_self ..)
    · exact (mset_mem h).imp id (List.mem_cons_of_mem _)
theorem mfind_key {k : ByteArray} : ∀ {L : List (ByteArray × Int × Nat)}, (mfind k L).isSome = true → ∃ e ∈ L, e.1 = k
 | [], h => by cases h
 | x :: l, h => by
  unfold mfind at h
  by_cases he : x.1 = k
  · exact ⟨x, List.mem_cons_self .., he⟩
  · rw [if_neg he] at h
    obtain ⟨e, h1, h2⟩ := mfind_key h
    exact ⟨e, List.mem_cons_of_mem _ h1, h2⟩
theorem MemoOk.add {hs : List Wop} {stk : List (List Nat × Tb)} {TL : List (ByteArray × Int × Nat)} (h : MemoOk hs stk TL) {l : List Nat} (hl : ∀ i ∈ l, i < 100) (S : Tb) (v : Int) (c : Nat) : MemoOk hs ((l, S) :: stk) (mset (keyB Lib.goPrintTabs l S) v c TL) := fun e he => by
 rcases mset_mem he with he | he
 · exact ⟨l, S, he, hl, .inr (List.mem_cons_self ..)⟩
 · obtain ⟨l', S', h1, h2, h3⟩ := h e he
   exact ⟨l', S', h1, h2, h3.imp id (List.mem_cons_of_mem _)⟩
theorem MemoOk.known {hs : List Wop} {stk : List (List Nat × Tb)} {TL : List (ByteArray × Int × Nat)} (h : MemoOk hs stk TL) {l : List Nat} (hl : ∀ i ∈ l, i < 100) {S : Tb} (hstk : ∀ p ∈ stk, l.length < p.1.length) (hk : (mfind (keyB Lib.goPrintTabs l S) TL).isSome = true) : ¬ Ex (l.map (hat hs)) S := by
 obtain ⟨e, he, hke⟩ := mfind_key hk
 obtain ⟨l', S', h1, h2, h3⟩ := h e he
 obtain ⟨rfl, rfl⟩ := keyB_inj Lib.goPrintTabs hl h2 (hke.symm.trans h1)
 exact h3.resolve_right fun q => Nat.lt_irrefl _ (hstk _ q)
theorem MemoOk.pop {hs : List Wop} {stk : List (List Nat × Tb)} {TL : List (ByteArray × Int × Nat)} {l : List Nat} {S : Tb} (h : MemoOk hs ((l, S) :: stk) TL) (hn : ¬ Ex (l.map (hat hs)) S) : MemoOk hs stk TL := fun e he => by
 obtain ⟨l', S', h1, h2, h3⟩ := h e he
 refine ⟨l', S', h1, h2, ?_⟩
 rcases h3 with h3 | h3
 · exact .inl h3
 · rcases List.mem_cons.1 h3 with h3 | h3
   · obtain ⟨rfl, rfl⟩ := Prod.mk.inj h3
     exact .inl hn
   · exact .inr h3
def Goes (hs : List Wop) (lf : List Nat) (S : Tb) (j : Nat) (hj : j < lf.length) : Prop := freeF (lf.map (hat hs)) (hat hs lf[j]) ∧ (doT S (hat hs lf[j])).2 = true ∧ Ex ((lf.eraseIdx j).map (hat hs)) (doT S (hat hs lf[j])).1
def Tried (hs : List Wop) (lf : List Nat) (S : Tb) (k : Nat) : Prop := ∀ j, (hj : j < lf.length) → j < k → ¬ Goes hs lf S j hj
theorem Tried.zero {hs : List Wop} {lf : List Nat} {S : Tb} : Tried hs lf S 0 := fun _ _ h => absurd h (Nat.not_lt_zero _)
theorem Tried.step {hs : List Wop} {lf : List Nat} {S : Tb} {k : Nat} (h : Tried hs lf S k) (hk : k < lf.length) (hn : ¬ Goes hs lf S k hk) : Tried hs lf S (k + 1) := fun j hj hlt => by
 rcases Nat.lt_or_ge j k with h1 | h1
 · exact h j hj h1
 · have : j = k := by omega
   subst this; exact hn
theorem map_erase {hs : List Wop} : ∀ {lf : List Nat} {k : Nat}, (lf.map (hat hs)).eraseIdx k = (lf.eraseIdx k).map (hat hs)
 | [], _ => rfl
 | _ :: _, 0 => rfl
 | a :: l, k + 1 => congrArg (hat hs a :: ·) (map_erase (lf := l) (k := k))
theorem Goes.ex {hs : List Wop} {lf : List Nat} {S : Tb} {k : Nat} {hk : k < lf.length} (h : Goes hs lf S k hk) : Ex (lf.map (hat hs)) S := by
 refine Ex_iff.2 (.inr ⟨k, by rw [List.length_map]; exact hk, ?_⟩)
 rw [List.getElem_map, map_erase]
 exact h
theorem Tried.none {hs : List Wop} {lf : List Nat} {S : Tb} {k : Nat} (h : Tried hs lf S k) (hk : lf.length ≤ k) (ho : ∃ i ∈ lf, opn (hat hs i) = false) : ¬ Ex (lf.map (hat hs)) S := fun q => by
 rcases Ex_iff.1 q with q | ⟨j, hj, q⟩
 · obtain ⟨i, hi, h1⟩ := ho
   have := q _ (List.mem_map.2 ⟨i, hi, rfl⟩)
   rw [h1] at this; cases this
 · have hj' : j < lf.length := by rwa [List.length_map] at hj
   rw [List.getElem_map, map_erase] at q
   exact h j hj' (by omega) q
theorem ex_open {hs : List Wop} {lf : List Nat} {S : Tb} (h : ¬ ∃ i ∈ lf, opn (hat hs i) = false) : Ex (lf.map (hat hs)) S := .done fun x hx => by
 obtain ⟨i, hi, rfl⟩ := List.mem_map.1 hx
 cases ho : opn (hat hs i) with
 | true => rfl
 | false => exact absurd ⟨i, hi, ho⟩ h
theorem free_of {hs : List Wop} {lf : List Nat} {m : Nat} : freeF (lf.map (hat hs)) (hat hs m) ↔ ¬ ∃ i ∈ lf, opn (hat hs i) = false ∧ (hat hs i).fin < (hat hs m).beg := by
 constructor
 · rintro h ⟨i, hi, h1, h2⟩
   rcases h _ (List.mem_map.2 ⟨i, hi, rfl⟩) with q | q
   · rw [h1] at q; cases q
   · exact q h2
 · intro h y hy
   obtain ⟨i, hi, rfl⟩ := List.mem_map.1 hy
   cases ho : opn (hat hs i) with
   | true => exact .inl rfl
   | false => exact .inr fun q => h ⟨i, hi, ho, q⟩
theorem strB_size (l : List (BitVec 8)) : (strB l).size = l.length := by
 have h : ∀ (l : List Int) (r : ByteArray), (l.foldl (fun r n => r.push (UInt8.ofNat n.toNat)) r).size = r.size + l.length := by
  intro l
  induction l with
  | nil => intro r; rfl
  | cons x l ih => intro r; rw [List.foldl_cons, ih, ByteArray.size_push, List.length_cons]; omega
 show (Go.BX.strOf l).size = _
 unfold Go.BX.strOf
 rw [h, List.length_map]
 show 0 + l.length = _
 omega
theorem tins_len (k v : ByteArray) (S : Tb) : (tins k v S).length = S.length + 1 := by rw [(tins_perm k v S).length_eq, List.length_cons]
theorem doT_cases (S : Tb) (x : Wop) : (doT S x).1 = tput S x.key (strB x.data) ∨ (doT S x).1 = tdel S x.key ∨ (doT S x).1 = S := by
 by_cases h1 : x.kind = 1
 · rw [doT_put h1]; exact .inl rfl
 by_cases h3 : x.kind = 3
 · rw [doT_del h3]; exact .inr (.inl rfl)
 by_cases h2 : x.kind = 2
 · rw [doT_get h2]; exact .inr (.inr rfl)
 · rw [doT_lst h1 h3 h2]; exact .inr (.inr rfl)
theorem doT_len (S : Tb) (x : Wop) : (doT S x).1.length ≤ S.length + 1 := by
 have hd : (tdel S x.key).length ≤ S.length := List.length_filter_le _ _
 rcases doT_cases S x with h | h | h <;> rw [h]
 · unfold tput; rw [tins_len]; omega
 · omega
 · omega
theorem doT_szs {S : Tb} {x : Wop} (hS : ∀ p ∈ S, p.1.size ≤ 1048576 ∧ p.2.size ≤ 1048576) (hk : x.key.size ≤ 1048576) (hd : x.data.length ≤ 1048576) : ∀ p ∈ (doT S x).1, p.1.size ≤ 1048576 ∧ p.2.size ≤ 1048576 := by
 have hd' : ∀ p ∈ tdel S x.key, p.1.size ≤ 1048576 ∧ p.2.size ≤ 1048576 := fun p hp => hS p (List.mem_filter.1 hp).1
 rcases doT_cases S x with h | h | h <;> rw [h]
 · intro p hp
   rcases List.mem_cons.1 ((tins_perm _ _ _).mem_iff.1 hp) with rfl | hp
   · exact ⟨hk, by show (strB x.data).size ≤ _; rw [strB_size]; exact hd⟩
   · exact hd' p hp
 · exact hd'
 · exact hS
theorem hat_mem {hs : List Wop} {i : Nat} (h : i < hs.length) : hat hs i ∈ hs := by rw [← hat_eq h]; exact List.getElem_mem h
def FromOk (n : Nat) : Prop := ∀ {S : Nat → Prop} {w : World} {O : List Nat} {hs : List Wop} {a : Option Addr} {c : Nat} {lf : List Nat} {al : Option Addr} {cl : Nat} {bh bT bO bF tm tb ct tc co : Nat} {L : List (ByteArray × ByteArray × Nat)} {Sx : Tb} {TL : List (ByteArray × Int × Nat)} {od : List Int} {ao : Option Addr} (hn : lf.length = n) (hlf : ∀ i ∈ lf, i < hs.length) (hhl : hs.length ≤ 14) (hsz : szH hs) (hT : TabOk L ct Sx) (hzs : ∀ p ∈ Sx, p.1.size ≤ 1048576 ∧ p.2.size ≤ 1048576) (hzl : Sx.length + lf.length ≤ 14) (stk : List (List Nat × Tb)) (hstk : ∀ p ∈ stk, lf.length < p.1.length) (hmo : MemoOk hs stk TL) (hod : od.length + lf.length ≤ 14) (H0 : Hp w S O [(bO, .cells #[.slice ao od.length co] 36 (0, 0)), (tm, mapO Value.string (Value.int .i64) TL tc)] [⟨(Shape.int .i64), 3, .slice ao od.length co, od⟩] [Rp (Shape.slice (Shape.int .i64)) [.slice al (li lf).length cl] (li lf), Fm tb (mapO Value.string Value.string L ct), Rp (Shape.slice wopS) [.slice a hs.length c] hs, Fc bh 0 [.slice a hs.length c], Fc bT 0 [.map (some tm)], Fc bF 0 [.func (.func 24) #[] #[.P bh 0, .P bT 0, .P bO 0, .P bF 0]], Fz tabsQ] w),
 Calls Tryd.prog 24 #[.slice al (li lf).length cl, .map (some tb), .P bh 0, .P bT 0, .P bO 0, .P bF 0] w (Ret fun v w' => ∃ (b : Bool) (od' : List Int) (ao' : Option Addr) (co' : Nat) (TL' : List (ByteArray × Int × Nat)) (tc' : Nat), v = .bool b ∧ (b = true ↔ Ex (lf.map (hat hs)) Sx) ∧ (b = false → od' = od ∧ MemoOk hs stk TL') ∧ Hp w S O [(bO, .cells #[.slice ao' od'.length co'] 36 (0, 0)), (tm, mapO Value.string (Value.int .i64) TL' tc')] [⟨(Shape.int .i64), 3, .slice ao' od'.length co', od'⟩] [] w')
theorem left_step {lf : List Nat} {k : Nat} (hk : k < lf.length) : leftB (lf.take k) ++ (digB lf[k] ++ (⟨#[32]⟩ : ByteArray)) = leftB (lf.take (k + 1)) := by
 rw [List.take_succ_eq_append_getElem hk, left_snoc]
theorem left_sz1 {i : Nat} (h : i < 100) : (digB i).size + (⟨#[32]⟩ : ByteArray).size ≤ 9223372036854775807 := by
 have := dig_size h
 have h3 : (⟨#[32]⟩ : ByteArray).size = 1 := rfl
 omega
theorem left_sz2 {lf : List Nat} (h : ∀ i ∈ lf, i < 100) (hl : lf.length ≤ 14) {k : Nat} (hk : k < lf.length) : (leftB (lf.take k)).size + (digB lf[k] ++ (⟨#[32]⟩ : ByteArray)).size ≤ 9223372036854775807 := by
 have h1 := dig_size (h _ (List.getElem_mem hk))
 have h2 := left_size (l := lf.take k) fun i hi => h i (List.mem_of_mem_take hi)
 have h3 : (⟨#[32]⟩ : ByteArray).size = 1 := rfl
 rw [List.length_take] at h2
 rw [ByteArray.size_append]
 omega
theorem key_sz {lf : List Nat} {Sx : Tb} (h : ∀ i ∈ lf, i < 100) (hl : lf.length ≤ 14) (hz : szT Sx) : (leftB lf).size + (pairsB Lib.goPrintTabs Sx).size ≤ 9223372036854775807 := by
 have h2 := left_size h
 have h1 := pairs_size Lib.goPrintTabs hz.2
 have h3 := hz.1
 omega
theorem li_erase {lf : List Nat} {k : Nat} : (li lf).take k ++ (li lf).drop (k + 1) = li (lf.eraseIdx k) := by
 unfold li
 rw [List.eraseIdx_eq_take_drop_succ, List.map_append, List.map_take, List.map_drop]
set_option maxHeartbeats 8000000 in
theorem from_step {S : Nat → Prop} {w : World} {O : List Nat} {hs : List Wop} {a : Option Addr} {c : Nat} {lf : List Nat} {al : Option Addr} {cl : Nat} {bh bT bO bF tm tb ct tc co : Nat} {L : List (ByteArray × ByteArray × Nat)} {Sx : Tb} {TL : List (ByteArray × Int × Nat)} {od : List Int} {ao : Option Addr} (IH : ∀ m, m < lf.length → FromOk m) (hlf : ∀ i ∈ lf, i < hs.length) (hhl : hs.length ≤ 14) (hsz : szH hs) (hT : TabOk L ct Sx) (hzs : ∀ p ∈ Sx, p.1.size ≤ 1048576 ∧ p.2.size ≤ 1048576) (hzl : Sx.length + lf.length ≤ 14) (stk : List (List Nat × Tb)) (hstk : ∀ p ∈ stk, lf.length < p.1.length) (hmo : MemoOk hs stk TL) (hod : od.length + lf.length ≤ 14) (H0 : Hp w S O [(bO, .cells #[.slice ao od.length co] 36 (0, 0)), (tm, mapO Value.string (Value.int .i64) TL tc)] [⟨(Shape.int .i64), 3, .slice ao od.length co, od⟩] [Rp (Shape.slice (Shape.int .i64)) [.slice al (li lf).length cl] (li lf), Fm tb (mapO Value.string Value.string L ct), Rp (Shape.slice wopS) [.slice a hs.length c] hs, Fc bh 0 [.slice a hs.length c], Fc bT 0 [.map (some tm)], Fc bF 0 [.func (.func 24) #[] #[.P bh 0, .P bT 0, .P bO 0, .P bF 0]], Fz tabsQ] w) :
 Calls Tryd.prog 24 #[.slice al (li lf).length cl, .map (some tb), .P bh 0, .P bT 0, .P bO 0, .P bF 0] w (Ret fun v w' => ∃ (b : Bool) (od' : List Int) (ao' : Option Addr) (co' : Nat) (TL' : List (ByteArray × Int × Nat)) (tc' : Nat), v = .bool b ∧ (b = true ↔ Ex (lf.map (hat hs)) Sx) ∧ (b = false → od' = od ∧ MemoOk hs stk TL') ∧ Hp w S O [(bO, .cells #[.slice ao' od'.length co'] 36 (0, 0)), (tm, mapO Value.string (Value.int .i64) TL' tc')] [⟨(Shape.int .i64), 3, .slice ao' od'.length co', od'⟩] [] w') := by
 have hlen := Shape.slice_len (H0.rp 2 rfl)
 have hll := li_len lf
 have hl100 : ∀ i ∈ lf, i < 100 := fun i hi => by have := hlf i hi; omega
 have hz : szT Sx := ⟨by omega, hzs⟩
 refine qS (fn := Tryd.f24) (n := 90) (σ := [(0, .slice al (li lf).length cl), (1, .map (some tb)), (2, .P bh 0), (3, .P bT 0), (4, .P bO 0), (5, .P bF 0)]) Tryd.func24 ?_
 have H := H0
 refine qR 4 [.c [1, 0, 0], .c [1, 0, 1], .c [2]] [(0, .slice al (li lf).length cl), (1, .map (some tb)), (2, .P bh 0), (3, .P bT 0), (4, .P bO 0), (5, .P bF 0)] ?_
 refine qG (sq 0 4) ?_
 refine qP 2 (sq 2 4) [(0, .slice al (li lf).length cl), (1, .map (some tb)), (2, .P bh 0), (3, .P bT 0), (4, .P bO 0), (5, .P bF 0), (18, .slice al (li lf).length cl), (19, .func (.func 26) #[] #[.P bh 0])] ?_
 refine qK .seq (some 20) (sq 3 4) 25 #[.slice al (li lf).length cl, .func (.func 26) #[] #[.P bh 0]] (cf_nopen (hs := hs) (H.rp 2 rfl) (H.fact 3 rfl) (H.rp 0 rfl) hlf) ?_
 rintro _ w1 hE2 ⟨bc4, rfl, hcf3⟩
 have H := H.ext hE2
 refine qF 1 [(0, .slice al (li lf).length cl), (1, .map (some tb)), (2, .P bh 0), (3, .P bT 0), (4, .P bO 0), (5, .P bF 0), (21, .bool (!bc4))] ?_
 refine qC (!bc4) (fun h5 => ?_) (fun h5 => ?_)
 ·
  replace h5 : (bc4) = false := by revert h5; cases (bc4) <;> simp
  have ho : ¬ ∃ i ∈ lf, opn (hat hs i) = false := fun q => absurd (hcf3.2 q) (by simp [*])
  refine qR 2 [.c [1, 0, 1, 0, 1], .c [2]] [(8, .bool true)] ?_
  refine qT (.bool true) Tryd.func24 ?_
  have H := H.drop (M' := [_, _]) (W' := [_]) (by repeat (first | exact List.Sublist.refl _ | exact List.nil_sublist _ | apply List.Sublist.cons_cons | apply List.Sublist.cons)) (by repeat (first | exact List.Sublist.refl _ | exact List.nil_sublist _ | apply List.Sublist.cons_cons | apply List.Sublist.cons))
  exact ⟨_, rfl, _, _, _, _, _, _, rfl, ⟨fun _ => ex_open ho, fun _ => rfl⟩, fun q => (by cases q), H.pick [] rfl⟩
 ·
  replace h5 : (bc4) = true := by revert h5; cases (bc4) <;> simp
  have ho : ∃ i ∈ lf, opn (hat hs i) = false := hcf3.1 (by simp [*])
  refine qR 7 [.c [3, 0, 1, 0], .b 0, .c [4]] [(0, .slice al (li lf).length cl), (1, .map (some tb)), (2, .P bh 0), (3, .P bT 0), (4, .P bO 0), (5, .P bF 0), (9, .string (⟨#[]⟩ : ByteArray)), (22, .slice al (li lf).length cl), (23, .I (((li lf).length : Nat) : Int)), (24, .I 0)] ?_
  refine WK.loop (α := Nat) (b := cd Tryd.prog 24 [3, 0, 1, 0, 0]) (by as_aux_lemma => kernel_rfl) (fun k => [(0, .slice al (li lf).length cl), (1, .map (some tb)), (2, .P bh 0), (3, .P bT 0), (4, .P bO 0), (5, .P bF 0), (9, .string (leftB (lf.take k))), (22, .slice al (li lf).length cl), (23, .I (((li lf).length : Nat) : Int)), (24, .I k)]) (fun k w' => Hp w S O [(bO, .cells #[.slice ao od.length co] 36 (0, 0)), (tm, mapO Value.string (Value.int .i64) TL tc)] [⟨(Shape.int .i64), 3, .slice ao od.length co, od⟩] [Rp (Shape.slice (Shape.int .i64)) [.slice al (li lf).length cl] (li lf), Fm tb (mapO Value.string Value.string L ct), Rp (Shape.slice wopS) [.slice a hs.length c] hs, Fc bh 0 [.slice a hs.length c], Fc bT 0 [.map (some tm)], Fc bF 0 [.func (.func 24) #[] #[.P bh 0, .P bT 0, .P bO 0, .P bF 0]], Fz tabsQ] w' ∧ k ≤ lf.length) (fun k => lf.length - k) 0 ⟨H, Nat.zero_le _⟩ (rfl) ?_
  rintro k w7 ⟨H, hinv0⟩ hback6
  refine qR 3 [.c [3, 0, 1, 0, 0, 1, 0], .c [3, 0, 1, 0, 0, 2], .l [3, 0, 1, 0, 0], .b 0, .c [4]] [(0, .slice al (li lf).length cl), (1, .map (some tb)), (2, .P bh 0), (3, .P bT 0), (4, .P bO 0), (5, .P bF 0), (9, .string (leftB (lf.take k))), (22, .slice al (li lf).length cl), (23, .I (((li lf).length : Nat) : Int)), (24, .I k), (25, .bool (decide (((k : Int) : Int) < (((li lf).length : Nat) : Int))))] ?_
  refine qD (((k : Int) : Int) < (((li lf).length : Nat) : Int)) (fun h8 => ?_) (fun h8 => ?_)
  ·
   have hk1 : k < lf.length := by omega
   refine qR 4 [.c [3, 0, 1, 0, 0, 2, 0, 0, 0], .c [3, 0, 1, 0, 0, 2, 0, 0, 1], .b 1, .c [3, 0, 1, 0, 0, 3], .l [3, 0, 1, 0, 0], .b 0, .c [4]] [(0, .slice al (li lf).length cl), (1, .map (some tb)), (2, .P bh 0), (3, .P bT 0), (4, .P bO 0), (5, .P bF 0), (9, .string (leftB (lf.take k))), (22, .slice al (li lf).length cl), (23, .I (((li lf).length : Nat) : Int)), (24, .I k)] ?_
   refine qG (sq 0 3) ?_
   have hx9 : k < (li lf).length := by omega
   refine qX .seq 26 (sq 1 3) 36 3 (k : Int) (Shape.int .i64) ((lf[k] : Nat) : Int) H 0 rfl k (by omega) (li_some hk1) ?_
   intro b10 o11 es12 hr13 H
   have hb14 := Shape.i64_bd hr13
   obtain ⟨rfl, -⟩ := hr13
   refine qL .seq 27 (sq 2 3) 3 b10 o11 0 (.I ((lf[k] : Nat) : Int)) (H.fc 0 rfl) ?_
   refine qF 1 [(0, .slice al (li lf).length cl), (1, .map (some tb)), (2, .P bh 0), (3, .P bT 0), (4, .P bO 0), (5, .P bF 0), (9, .string (leftB (lf.take k))), (11, .I ((lf[k] : Nat) : Int)), (22, .slice al (li lf).length cl), (23, .I (((li lf).length : Nat) : Int)), (24, .I k)] ?_
   refine qG (sq 0 6) ?_
   refine qP 2 (sq 2 6) [(0, .slice al (li lf).length cl), (1, .map (some tb)), (2, .P bh 0), (3, .P bT 0), (4, .P bO 0), (5, .P bF 0), (9, .string (leftB (lf.take k))), (22, .slice al (li lf).length cl), (23, .I (((li lf).length : Nat) : Int)), (24, .I k), (28, .string (leftB (lf.take k))), (29, .I ((lf[k] : Nat) : Int))] ?_
   refine qK .seq (some 30) (sq 3 6) 27 #[.I ((lf[k] : Nat) : Int)] (itoa_spec lf[k] (hl100 _ (List.getElem_mem hk1))) ?_
   rintro _ w15 hE16 rfl
   have H := H.ext hE16
   refine RW.readS (κ := .seq) (d := some 31) (r := (sq 4 6)) (s := semV (Op.stringOp .add (digB lf[k]) (⟨#[32]⟩ : ByteArray))) (v := .string ((digB lf[k]) ++ (⟨#[32]⟩ : ByteArray))) (by as_aux_lemma => kernel_rfl) (fun w' _ => semV_run (run_string_add_sum w' _ _ (left_sz1 (hl100 _ (List.getElem_mem hk1))))) ?_
   refine RW.readS (κ := .seq) (d := some 32) (r := (sq 5 6)) (s := semV (Op.stringOp .add (leftB (lf.take k)) ((digB lf[k]) ++ (⟨#[32]⟩ : ByteArray)))) (v := .string ((leftB (lf.take k)) ++ ((digB lf[k]) ++ (⟨#[32]⟩ : ByteArray)))) (by as_aux_lemma => kernel_rfl) (fun w' _ => semV_run (run_string_add_sum w' _ _ (left_sz2 hl100 (by omega) hk1))) ?_
   refine qF 1 [(0, .slice al (li lf).length cl), (1, .map (some tb)), (2, .P bh 0), (3, .P bT 0), (4, .P bO 0), (5, .P bF 0), (9, .string ((leftB (lf.take k)) ++ ((digB lf[k]) ++ (⟨#[32]⟩ : ByteArray)))), (22, .slice al (li lf).length cl), (23, .I (((li lf).length : Nat) : Int)), (24, .I k)] ?_
   refine qR 1 [.c [3, 0, 1, 0, 0, 3], .l [3, 0, 1, 0, 0], .b 0, .c [4]] [(0, .slice al (li lf).length cl), (1, .map (some tb)), (2, .P bh 0), (3, .P bT 0), (4, .P bO 0), (5, .P bF 0), (9, .string ((leftB (lf.take k)) ++ ((digB lf[k]) ++ (⟨#[32]⟩ : ByteArray)))), (22, .slice al (li lf).length cl), (23, .I (((li lf).length : Nat) : Int)), (24, .I k)] ?_
   refine qG (sq 0 2) ?_
   refine qI .seq 33 (sq 1 2) ((k : Int) + 1) ?_
   refine qF 1 [(0, .slice al (li lf).length cl), (1, .map (some tb)), (2, .P bh 0), (3, .P bT 0), (4, .P bO 0), (5, .P bF 0), (9, .string ((leftB (lf.take k)) ++ ((digB lf[k]) ++ (⟨#[32]⟩ : ByteArray)))), (22, .slice al (li lf).length cl), (23, .I (((li lf).length : Nat) : Int)), (24, .I ((k : Int) + 1))] ?_
   rw [left_step hk1]
   have H := H.pick [1, 2, 3, 4, 5, 6, 7] rfl
   exact WK.back (hback6 (k + 1) _ ⟨H, by omega⟩ (by first | omega | (simp only []; omega))) (by as_aux_lemma => kernel_rfl)
  ·
   rw [show lf.take k = lf from List.take_of_length_le (by omega)]
   refine qR 2 [.c [4, 0], .c [5]] [(0, .slice al (li lf).length cl), (1, .map (some tb)), (2, .P bh 0), (3, .P bT 0), (4, .P bO 0), (5, .P bF 0), (9, .string (leftB lf))] ?_
   refine qG (sq 0 5) ?_
   refine qP 2 (sq 2 5) [(0, .slice al (li lf).length cl), (1, .map (some tb)), (2, .P bh 0), (3, .P bT 0), (4, .P bO 0), (5, .P bF 0), (9, .string (leftB lf)), (34, .string (leftB lf)), (35, .map (some tb))] ?_
   refine qK .seq (some 36) (sq 3 5) 28 #[.map (some tb)] (text_spec hT hz (H.fact 1 rfl) (H.fact 6 rfl)) ?_
   rintro _ w17 hE18 rfl
   have H := H.ext hE18
   refine RW.readS (κ := .seq) (d := some 37) (r := (sq 4 5)) (s := semV (Op.stringOp .add (leftB lf) (pairsB Lib.goPrintTabs Sx))) (v := .string ((leftB lf) ++ (pairsB Lib.goPrintTabs Sx))) (by as_aux_lemma => kernel_rfl) (fun w' _ => semV_run (run_string_add_sum w' _ _ (key_sz hl100 (by omega) hz))) ?_
   refine qF 1 [(0, .slice al (li lf).length cl), (1, .map (some tb)), (2, .P bh 0), (3, .P bT 0), (4, .P bO 0), (5, .P bF 0), (9, .string ((leftB lf) ++ (pairsB Lib.goPrintTabs Sx)))] ?_
   refine qR 2 [.c [5, 0, 0], .c [5, 0, 1], .c [6]] [(0, .slice al (li lf).length cl), (1, .map (some tb)), (2, .P bh 0), (3, .P bT 0), (4, .P bO 0), (5, .P bF 0), (9, .string ((leftB lf) ++ (pairsB Lib.goPrintTabs Sx)))] ?_
   refine qG (sq 0 8) ?_
   refine qL .seq 39 (sq 1 8) 68 bT 0 0 (.map (some tm)) (H.fc 4 rfl) ?_
   refine qP 1 (sq 2 8) [(0, .slice al (li lf).length cl), (1, .map (some tb)), (2, .P bh 0), (3, .P bT 0), (4, .P bO 0), (5, .P bF 0), (9, .string ((leftB lf) ++ (pairsB Lib.goPrintTabs Sx))), (39, .map (some tm)), (40, .string ((leftB lf) ++ (pairsB Lib.goPrintTabs Sx)))] ?_
   refine RW.mapGet (κ := .seq) (d := some 41) (r := (sq 3 8)) (T := 68) (mk := Value.string) (vk := (Value.int .i64)) (Kt := 9) (E := 3) (z := 0) ((leftB lf) ++ (pairsB Lib.goPrintTabs Sx)) true (by as_aux_lemma => kernel_rfl) H 1 rfl (KeyOk.str (by as_aux_lemma => kernel_rfl)) (by as_aux_lemma => kernel_rfl) (fun w_ => zeroE_run (by as_aux_lemma => kernel_rfl) w_) ?_
   refine qF 5 [(0, .slice al (li lf).length cl), (1, .map (some tb)), (2, .P bh 0), (3, .P bT 0), (4, .P bO 0), (5, .P bF 0), (9, .string ((leftB lf) ++ (pairsB Lib.goPrintTabs Sx))), (13, .bool ((mfind ((leftB lf) ++ (pairsB Lib.goPrintTabs Sx)) TL).isSome))] ?_
   refine qR 2 [.c [5, 0, 2], .c [6]] [(0, .slice al (li lf).length cl), (1, .map (some tb)), (2, .P bh 0), (3, .P bT 0), (4, .P bO 0), (5, .P bF 0), (9, .string ((leftB lf) ++ (pairsB Lib.goPrintTabs Sx))), (44, .bool ((mfind ((leftB lf) ++ (pairsB Lib.goPrintTabs Sx)) TL).isSome))] ?_
   refine qC ((mfind ((leftB lf) ++ (pairsB Lib.goPrintTabs Sx)) TL).isSome) (fun h19 => ?_) (fun h19 => ?_)
   ·
    refine qR 2 [.c [5, 0, 2, 0, 1], .c [6]] [(8, .bool false)] ?_
    refine qT (.bool false) Tryd.func24 ?_
    have H := H.drop (M' := [_, _]) (W' := [_]) (by repeat (first | exact List.Sublist.refl _ | exact List.nil_sublist _ | apply List.Sublist.cons_cons | apply List.Sublist.cons)) (by repeat (first | exact List.Sublist.refl _ | exact List.nil_sublist _ | apply List.Sublist.cons_cons | apply List.Sublist.cons))
    exact ⟨_, rfl, _, _, _, _, _, _, rfl, ⟨fun q => (by cases q), fun q => absurd q (hmo.known hl100 hstk (by assumption))⟩, fun _ => ⟨rfl, hmo⟩, H.pick [] rfl⟩
   ·
    refine qR 2 [.c [6, 0], .c [7]] [(0, .slice al (li lf).length cl), (1, .map (some tb)), (2, .P bh 0), (3, .P bT 0), (4, .P bO 0), (5, .P bF 0), (9, .string ((leftB lf) ++ (pairsB Lib.goPrintTabs Sx)))] ?_
    refine qG (sq 0 3) ?_
    refine qL .seq 45 (sq 1 3) 68 bT 0 0 (.map (some tm)) (H.fc 4 rfl) ?_
    refine qP 1 (sq 2 3) [(0, .slice al (li lf).length cl), (1, .map (some tb)), (2, .P bh 0), (4, .P bO 0), (5, .P bF 0), (45, .map (some tm)), (46, .string ((leftB lf) ++ (pairsB Lib.goPrintTabs Sx)))] ?_
    refine RW.mapSet (d := none) (r := (sq 3 3)) (T := 68) (mk := Value.string) (vk := (Value.int .i64)) (Kt := 9) (E := 3) (M' := [(bO, .cells #[.slice ao od.length co] 36 (0, 0)), (tm, mapO Value.string (Value.int .i64) (mset ((leftB lf) ++ (pairsB Lib.goPrintTabs Sx)) 1 tc TL) (mclk ((leftB lf) ++ (pairsB Lib.goPrintTabs Sx)) tc TL))]) ((leftB lf) ++ (pairsB Lib.goPrintTabs Sx)) 1 (by as_aux_lemma => kernel_rfl) H 1 rfl (KeyOk.str (by as_aux_lemma => kernel_rfl)) (by as_aux_lemma => kernel_rfl) rfl ?_
    intro w20 hCw20 H
    refine qF 0 [(0, .slice al (li lf).length cl), (1, .map (some tb)), (2, .P bh 0), (4, .P bO 0), (5, .P bF 0)] ?_
    refine qR 4 [.c [7, 0, 1, 0], .b 2, .c [8]] [(0, .slice al (li lf).length cl), (1, .map (some tb)), (2, .P bh 0), (4, .P bO 0), (5, .P bF 0), (47, .slice al (li lf).length cl), (48, .I (((li lf).length : Nat) : Int)), (49, .I 0)] ?_
    refine WK.loop (α := Nat × Option Addr × Nat × List (ByteArray × Int × Nat) × Nat) (b := cd Tryd.prog 24 [7, 0, 1, 0, 0]) (by as_aux_lemma => kernel_rfl) (fun st_ => match st_ with | (k, ao2, co2, TL2, tc2) => [(0, .slice al (li lf).length cl), (1, .map (some tb)), (2, .P bh 0), (4, .P bO 0), (5, .P bF 0), (47, .slice al (li lf).length cl), (48, .I (((li lf).length : Nat) : Int)), (49, .I k)]) (fun st_ w' => match st_ with | (k, ao2, co2, TL2, tc2) => Hp w S O [(bO, .cells #[.slice ao2 od.length co2] 36 (0, 0)), (tm, mapO Value.string (Value.int .i64) TL2 tc2)] [⟨(Shape.int .i64), 3, .slice ao2 od.length co2, od⟩] [Rp (Shape.slice (Shape.int .i64)) [.slice al (li lf).length cl] (li lf), Fm tb (mapO Value.string Value.string L ct), Rp (Shape.slice wopS) [.slice a hs.length c] hs, Fc bh 0 [.slice a hs.length c], Fc bT 0 [.map (some tm)], Fc bF 0 [.func (.func 24) #[] #[.P bh 0, .P bT 0, .P bO 0, .P bF 0]], Fz tabsQ] w' ∧ k ≤ lf.length ∧ MemoOk hs ((lf, Sx) :: stk) TL2 ∧ Tried hs lf Sx k) (fun st_ => match st_ with | (k, ao2, co2, TL2, tc2) => lf.length - k) (0, ao, co, mset ((leftB lf) ++ (pairsB Lib.goPrintTabs Sx)) 1 tc TL, mclk ((leftB lf) ++ (pairsB Lib.goPrintTabs Sx)) tc TL) ⟨H, Nat.zero_le _, hmo.add hl100 Sx 1 tc, Tried.zero⟩ (rfl) ?_
    rintro ⟨k, ao2, co2, TL2, tc2⟩ w22 ⟨H, hinv1⟩ hback21
    refine qR 3 [.c [7, 0, 1, 0, 0, 1, 0], .c [7, 0, 1, 0, 0, 2], .l [7, 0, 1, 0, 0], .b 2, .c [8]] [(0, .slice al (li lf).length cl), (1, .map (some tb)), (2, .P bh 0), (4, .P bO 0), (5, .P bF 0), (47, .slice al (li lf).length cl), (48, .I (((li lf).length : Nat) : Int)), (49, .I k), (50, .bool (decide (((k : Int) : Int) < (((li lf).length : Nat) : Int))))] ?_
    refine qD (((k : Int) : Int) < (((li lf).length : Nat) : Int)) (fun h23 => ?_) (fun h23 => ?_)
    ·
     have hk1 : k < lf.length := by omega
     have hmm : lf[k] < hs.length := hlf _ (List.getElem_mem hk1)
     have hlt : (lf.eraseIdx k).length < lf.length := by rw [List.length_eraseIdx_of_lt hk1]; omega
     have hle : (lf.eraseIdx k).length = lf.length - 1 := List.length_eraseIdx_of_lt hk1
     have hlf2 : ∀ i ∈ lf.eraseIdx k, i < hs.length := fun i hi => hlf i (List.mem_of_mem_eraseIdx hi)
     have hdl := doT_len Sx (hat hs lf[k])
     have hzl2 : (doT Sx (hat hs lf[k])).1.length + (lf.eraseIdx k).length ≤ 14 := by omega
     have hzs2 := doT_szs hzs (hsz _ (hat_mem hmm)).1 (hsz _ (hat_mem hmm)).2
     have hstk2 : ∀ p ∈ (lf, Sx) :: stk, (lf.eraseIdx k).length < p.1.length := fun p hp => (List.mem_cons.1 hp).elim (fun q => by rw [q]; exact hlt) fun q => Nat.lt_trans hlt (hstk p q)
     refine qR 4 [.c [7, 0, 1, 0, 0, 2, 0, 0, 0], .c [7, 0, 1, 0, 0, 2, 0, 0, 1], .b 3, .c [7, 0, 1, 0, 0, 3], .l [7, 0, 1, 0, 0], .b 2, .c [8]] [(0, .slice al (li lf).length cl), (1, .map (some tb)), (2, .P bh 0), (4, .P bO 0), (5, .P bF 0), (47, .slice al (li lf).length cl), (48, .I (((li lf).length : Nat) : Int)), (49, .I k)] ?_
     refine qG (sq 0 6) ?_
     refine qP 1 (sq 1 6) [(0, .slice al (li lf).length cl), (1, .map (some tb)), (2, .P bh 0), (4, .P bO 0), (5, .P bF 0), (47, .slice al (li lf).length cl), (48, .I (((li lf).length : Nat) : Int)), (49, .I k), (51, .I k)] ?_
     have hx24 : k < (li lf).length := by omega
     refine qX .seq 52 (sq 2 6) 36 3 (k : Int) (Shape.int .i64) ((lf[k] : Nat) : Int) H 0 rfl k (by omega) (li_some hk1) ?_
     intro b25 o26 es27 hr28 H
     have hb29 := Shape.i64_bd hr28
     obtain ⟨rfl, -⟩ := hr28
     refine qL .seq 53 (sq 3 6) 3 b25 o26 0 (.I ((lf[k] : Nat) : Int)) (H.fc 0 rfl) ?_
     refine qB .seq 15 (sq 4 6) #[.I 0] 3 H ?_
     intro b30 w31 H
     refine qP 1 (sq 5 6) [(0, .slice al (li lf).length cl), (1, .map (some tb)), (2, .P bh 0), (4, .P bO 0), (5, .P bF 0), (14, .I k), (15, .P b30 0), (47, .slice al (li lf).length cl), (48, .I (((li lf).length : Nat) : Int)), (49, .I k), (53, .I ((lf[k] : Nat) : Int))] ?_
     refine qW 3 b30 0 (sq 6 6) (.I ((lf[k] : Nat) : Int)) [(b30, .cells #[.I ((lf[k] : Nat) : Int)] 3 (0, 0)), (bO, .cells #[.slice ao2 od.length co2] 36 (0, 0)), (tm, mapO Value.string (Value.int .i64) TL2 tc2)] H 0 rfl rfl ?_
     intro w32 H
     refine qF 0 [(0, .slice al (li lf).length cl), (1, .map (some tb)), (2, .P bh 0), (4, .P bO 0), (5, .P bF 0), (14, .I k), (15, .P b30 0), (47, .slice al (li lf).length cl), (48, .I (((li lf).length : Nat) : Int)), (49, .I k)] ?_
     refine qR 2 [.c [7, 0, 1, 0, 0, 2, 0, 0, 1, 0, 0], .c [7, 0, 1, 0, 0, 2, 0, 0, 1, 0, 1], .c [7, 0, 1, 0, 0, 2, 0, 0, 2], .b 3, .c [7, 0, 1, 0, 0, 3], .l [7, 0, 1, 0, 0], .b 2, .c [8]] [(0, .slice al (li lf).length cl), (1, .map (some tb)), (2, .P bh 0), (4, .P bO 0), (5, .P bF 0), (14, .I k), (15, .P b30 0), (47, .slice al (li lf).length cl), (48, .I (((li lf).length : Nat) : Int)), (49, .I k)] ?_
     refine qG (sq 0 3) ?_
     refine qP 2 (sq 2 3) [(0, .slice al (li lf).length cl), (1, .map (some tb)), (2, .P bh 0), (4, .P bO 0), (5, .P bF 0), (14, .I k), (15, .P b30 0), (47, .slice al (li lf).length cl), (48, .I (((li lf).length : Nat) : Int)), (49, .I k), (54, .slice al (li lf).length cl), (55, .func (.func 29) #[] #[.P bh 0, .P b30 0])] ?_
     refine qK .seq (some 56) (sq 3 3) 25 #[.slice al (li lf).length cl, .func (.func 29) #[] #[.P bh 0, .P b30 0]] (cf_nlate (S := fun _ => True) (hs := hs) (H.viewR 3 rfl) (H.viewF 4 rfl) (H.viewM 0 rfl (by simp)) hmm (H.viewR 1 rfl) hlf) ?_
     rintro _ w33 hE34 ⟨bc36, rfl, hcf35⟩
     have H := H.ext hE34
     refine qF 0 [(0, .slice al (li lf).length cl), (1, .map (some tb)), (2, .P bh 0), (4, .P bO 0), (5, .P bF 0), (14, .I k), (15, .P b30 0), (47, .slice al (li lf).length cl), (48, .I (((li lf).length : Nat) : Int)), (49, .I k), (56, .bool bc36)] ?_
     refine qC bc36 (fun h37 => ?_) (fun h37 => ?_)
     ·
      have hn : ¬ Goes hs lf Sx k hk1 := fun q => free_of.1 q.1 (hcf35.1 h37)
      have hmo2 := hinv1.2.1
      refine qR 1 [.c [7, 0, 1, 0, 0, 3], .l [7, 0, 1, 0, 0], .b 2, .c [8]] [(0, .slice al (li lf).length cl), (1, .map (some tb)), (2, .P bh 0), (4, .P bO 0), (5, .P bF 0), (47, .slice al (li lf).length cl), (48, .I (((li lf).length : Nat) : Int)), (49, .I k)] ?_
      refine qG (sq 0 2) ?_
      refine qI .seq 89 (sq 1 2) ((k : Int) + 1) ?_
      refine qF 1 [(0, .slice al (li lf).length cl), (1, .map (some tb)), (2, .P bh 0), (4, .P bO 0), (5, .P bF 0), (47, .slice al (li lf).length cl), (48, .I (((li lf).length : Nat) : Int)), (49, .I ((k : Int) + 1))] ?_
      have H := H.pick [1, 2, 3, 4, 5, 6, 7] rfl
      have H := H.frontM 2 (M' := [(tm, mapO Value.string (Value.int .i64) TL2 tc2), (b30, .cells #[.I ((lf[k] : Nat) : Int)] 3 (0, 0)), (bO, .cells #[.slice ao2 od.length co2] 36 (0, 0))]) rfl
      have H := H.frontM 2 (M' := [(bO, .cells #[.slice ao2 od.length co2] 36 (0, 0)), (tm, mapO Value.string (Value.int .i64) TL2 tc2), (b30, .cells #[.I ((lf[k] : Nat) : Int)] 3 (0, 0))]) rfl
      have H := H.drop (M' := [(bO, .cells #[.slice ao2 od.length co2] 36 (0, 0)), (tm, mapO Value.string (Value.int .i64) TL2 tc2)]) (W' := [⟨(Shape.int .i64), 3, .slice ao2 od.length co2, od⟩]) (by repeat (first | exact List.Sublist.refl _ | apply List.Sublist.cons_cons | apply List.Sublist.cons)) (by repeat (first | exact List.Sublist.refl _ | apply List.Sublist.cons_cons | apply List.Sublist.cons))
      exact WK.back (hback21 (k + 1, ao2, co2, TL2, tc2) _ ⟨H, by omega, hmo2, hinv1.2.2.step hk1 hn⟩ (by first | omega | (simp only []; omega))) (by as_aux_lemma => kernel_rfl)
     ·
      have hfr : freeF (lf.map (hat hs)) (hat hs lf[k]) := free_of.2 fun q => absurd (hcf35.2 q) (by simp [*])
      refine qR 2 [.c [7, 0, 1, 0, 0, 2, 0, 0, 2, 0], .c [7, 0, 1, 0, 0, 2, 0, 0, 3], .b 3, .c [7, 0, 1, 0, 0, 3], .l [7, 0, 1, 0, 0], .b 2, .c [8]] [(0, .slice al (li lf).length cl), (1, .map (some tb)), (2, .P bh 0), (4, .P bO 0), (5, .P bF 0), (14, .I k), (15, .P b30 0), (47, .slice al (li lf).length cl), (48, .I (((li lf).length : Nat) : Int)), (49, .I k)] ?_
      refine qG (sq 0 11) ?_
      refine qP 1 (sq 1 11) [(0, .slice al (li lf).length cl), (1, .map (some tb)), (2, .P bh 0), (4, .P bO 0), (5, .P bF 0), (14, .I k), (15, .P b30 0), (47, .slice al (li lf).length cl), (48, .I (((li lf).length : Nat) : Int)), (49, .I k), (58, .map (some tb))] ?_
      refine qL .seq 59 (sq 2 11) 22 bh 0 0 (.slice a hs.length c) (H.fc 4 rfl) ?_
      refine qL .seq 60 (sq 3 11) 3 b30 0 0 (.I ((lf[k] : Nat) : Int)) (H.cells 0 rfl) ?_
      have hx38 : lf[k] < hs.length := by omega
      refine qX .seq 61 (sq 4 11) 22 33 ((lf[k] : Nat) : Int) wopS (hat hs lf[k]) H 3 rfl (lf[k]) (by omega) (hat_some hmm) ?_
      intro b39 o40 es41 hr42 H
      obtain ⟨a4q43, k4q43, a6q43, k6q43, a7q43, k7q43, rfl, hf44, hf45, hf46, hf47, hf48, hf49, hf50, hf51, hf52, hf53⟩ := wop_open hr42
      have H := H.add (F := Rp SB [.slice a4q43 ((hat hs lf[k]).data.length) k4q43] ((hat hs lf[k]).data)) hf48
      have H := H.add (F := Rp SB [.slice a6q43 ((hat hs lf[k]).answer.length) k6q43] ((hat hs lf[k]).answer)) hf50
      have H := H.add (F := Rp (Shape.slice Shape.str) [.slice a7q43 ((hat hs lf[k]).names.length) k7q43] ((hat hs lf[k]).names)) hf51
      refine qL .seq 62 (sq 5 11) 33 b39 o40 0 (.agg #[.int .u64 ((hat hs lf[k]).client), .int .u64 ((hat hs lf[k]).seq), .I ((hat hs lf[k]).kind), .string ((hat hs lf[k]).key), .slice a4q43 ((hat hs lf[k]).data.length) k4q43, .I ((hat hs lf[k]).code), .slice a6q43 ((hat hs lf[k]).answer.length) k6q43, .slice a7q43 ((hat hs lf[k]).names.length) k7q43, .I ((hat hs lf[k]).beg), .I ((hat hs lf[k]).fin)]) (H.fc 3 rfl) ?_
      refine qK .seq (some 63) (sq 6 11) 16 #[.map (some tb), .agg #[.int .u64 ((hat hs lf[k]).client), .int .u64 ((hat hs lf[k]).seq), .I ((hat hs lf[k]).kind), .string ((hat hs lf[k]).key), .slice a4q43 ((hat hs lf[k]).data.length) k4q43, .I ((hat hs lf[k]).code), .slice a6q43 ((hat hs lf[k]).answer.length) k6q43, .slice a7q43 ((hat hs lf[k]).names.length) k7q43, .I ((hat hs lf[k]).beg), .I ((hat hs lf[k]).fin)]] (do_spec hT hz (x := (hat hs lf[k])) (wop_mk (l0 := [.int .u64 ((hat hs lf[k]).client)]) (y0 := (hat hs lf[k]).client) (l1 := [.int .u64 ((hat hs lf[k]).seq)]) (y1 := (hat hs lf[k]).seq) (l2 := [.I ((hat hs lf[k]).kind)]) (y2 := (hat hs lf[k]).kind) (l3 := [.string ((hat hs lf[k]).key)]) (y3 := (hat hs lf[k]).key) (l4 := [.slice a4q43 ((hat hs lf[k]).data.length) k4q43]) (y4 := (hat hs lf[k]).data) (l5 := [.I ((hat hs lf[k]).code)]) (y5 := (hat hs lf[k]).code) (l6 := [.slice a6q43 ((hat hs lf[k]).answer.length) k6q43]) (y6 := (hat hs lf[k]).answer) (l7 := [.slice a7q43 ((hat hs lf[k]).names.length) k7q43]) (y7 := (hat hs lf[k]).names) (l8 := [.I ((hat hs lf[k]).beg)]) (y8 := (hat hs lf[k]).beg) (l9 := [.I ((hat hs lf[k]).fin)]) (y9 := (hat hs lf[k]).fin) u64a u64a i64a ⟨rfl, by first | assumption | (simp [maxLen]; done) | decide⟩ (H.rp 2 rfl) i64a (H.rp 1 rfl) (H.rp 0 rfl) i64a i64a) (H.fact 6 rfl)) ?_
      rintro _ w54 - ⟨tb55, L56, ct57, rfl, hT58, H'⟩
      have H := H.back (M1 := []) (W1 := []) H'
      have H : Hp w S O [(b30, .cells #[.I ((lf[k] : Nat) : Int)] 3 (0, 0)), (bO, .cells #[.slice ao2 od.length co2] 36 (0, 0)), (tm, mapO Value.string (Value.int .i64) TL2 tc2)] [⟨(Shape.int .i64), 3, .slice ao2 od.length co2, od⟩] [Fm tb55 (mapO Value.string Value.string L56 ct57), Rp (Shape.slice Shape.str) [.slice a7q43 ((hat hs lf[k]).names.length) k7q43] ((hat hs lf[k]).names), Rp SB [.slice a6q43 ((hat hs lf[k]).answer.length) k6q43] ((hat hs lf[k]).answer), Rp SB [.slice a4q43 ((hat hs lf[k]).data.length) k4q43] ((hat hs lf[k]).data), Fc b39 o40 [.int .u64 ((hat hs lf[k]).client), .int .u64 ((hat hs lf[k]).seq), .I ((hat hs lf[k]).kind), .string ((hat hs lf[k]).key), .slice a4q43 ((hat hs lf[k]).data.length) k4q43, .I ((hat hs lf[k]).code), .slice a6q43 ((hat hs lf[k]).answer.length) k6q43, .slice a7q43 ((hat hs lf[k]).names.length) k7q43, .I ((hat hs lf[k]).beg), .I ((hat hs lf[k]).fin)], Fc b25 o26 [.I ((lf[k] : Nat) : Int)], Rp (Shape.slice (Shape.int .i64)) [.slice al (li lf).length cl] (li lf), Fm tb (mapO Value.string Value.string L ct), Rp (Shape.slice wopS) [.slice a hs.length c] hs, Fc bh 0 [.slice a hs.length c], Fc bT 0 [.map (some tm)], Fc bF 0 [.func (.func 24) #[] #[.P bh 0, .P bT 0, .P bO 0, .P bF 0]], Fz tabsQ] _ := H
      refine qF 5 [(0, .slice al (li lf).length cl), (1, .map (some tb)), (2, .P bh 0), (4, .P bO 0), (5, .P bF 0), (14, .I k), (15, .P b30 0), (16, .map (some tb55)), (17, .bool ((doT Sx (hat hs lf[k])).2)), (47, .slice al (li lf).length cl), (48, .I (((li lf).length : Nat) : Int)), (49, .I k)] ?_
      refine qR 3 [.c [7, 0, 1, 0, 0, 2, 0, 0, 3, 0, 1], .c [7, 0, 1, 0, 0, 2, 0, 0, 4], .b 3, .c [7, 0, 1, 0, 0, 3], .l [7, 0, 1, 0, 0], .b 2, .c [8]] [(0, .slice al (li lf).length cl), (1, .map (some tb)), (2, .P bh 0), (4, .P bO 0), (5, .P bF 0), (14, .I k), (15, .P b30 0), (16, .map (some tb55)), (47, .slice al (li lf).length cl), (48, .I (((li lf).length : Nat) : Int)), (49, .I k), (67, .bool (!((doT Sx (hat hs lf[k])).2)))] ?_
      refine qC (!((doT Sx (hat hs lf[k])).2)) (fun h59 => ?_) (fun h59 => ?_)
      ·
       replace h59 : ((doT Sx (hat hs lf[k])).2) = false := by revert h59; cases ((doT Sx (hat hs lf[k])).2) <;> simp
       have hn : ¬ Goes hs lf Sx k hk1 := fun q => absurd q.2.1 (by simp [*])
       have hmo2 := hinv1.2.1
       refine qR 1 [.c [7, 0, 1, 0, 0, 3], .l [7, 0, 1, 0, 0], .b 2, .c [8]] [(0, .slice al (li lf).length cl), (1, .map (some tb)), (2, .P bh 0), (4, .P bO 0), (5, .P bF 0), (47, .slice al (li lf).length cl), (48, .I (((li lf).length : Nat) : Int)), (49, .I k)] ?_
       refine qG (sq 0 2) ?_
       refine qI .seq 89 (sq 1 2) ((k : Int) + 1) ?_
       refine qF 1 [(0, .slice al (li lf).length cl), (1, .map (some tb)), (2, .P bh 0), (4, .P bO 0), (5, .P bF 0), (47, .slice al (li lf).length cl), (48, .I (((li lf).length : Nat) : Int)), (49, .I ((k : Int) + 1))] ?_
       have H := H.pick [6, 7, 8, 9, 10, 11, 12] rfl
       have H := H.frontM 2 (M' := [(tm, mapO Value.string (Value.int .i64) TL2 tc2), (b30, .cells #[.I ((lf[k] : Nat) : Int)] 3 (0, 0)), (bO, .cells #[.slice ao2 od.length co2] 36 (0, 0))]) rfl
       have H := H.frontM 2 (M' := [(bO, .cells #[.slice ao2 od.length co2] 36 (0, 0)), (tm, mapO Value.string (Value.int .i64) TL2 tc2), (b30, .cells #[.I ((lf[k] : Nat) : Int)] 3 (0, 0))]) rfl
       have H := H.drop (M' := [(bO, .cells #[.slice ao2 od.length co2] 36 (0, 0)), (tm, mapO Value.string (Value.int .i64) TL2 tc2)]) (W' := [⟨(Shape.int .i64), 3, .slice ao2 od.length co2, od⟩]) (by repeat (first | exact List.Sublist.refl _ | apply List.Sublist.cons_cons | apply List.Sublist.cons)) (by repeat (first | exact List.Sublist.refl _ | apply List.Sublist.cons_cons | apply List.Sublist.cons))
       exact WK.back (hback21 (k + 1, ao2, co2, TL2, tc2) _ ⟨H, by omega, hmo2, hinv1.2.2.step hk1 hn⟩ (by first | omega | (simp only []; omega))) (by as_aux_lemma => kernel_rfl)
      ·
       replace h59 : ((doT Sx (hat hs lf[k])).2) = true := by revert h59; cases ((doT Sx (hat hs lf[k])).2) <;> simp
       have hdo : (doT Sx (hat hs lf[k])).2 = true := by simp [*]
       refine qR 2 [.c [7, 0, 1, 0, 0, 2, 0, 0, 4, 0], .c [7, 0, 1, 0, 0, 2, 0, 0, 5], .b 3, .c [7, 0, 1, 0, 0, 3], .l [7, 0, 1, 0, 0], .b 2, .c [8]] [(0, .slice al (li lf).length cl), (1, .map (some tb)), (2, .P bh 0), (4, .P bO 0), (5, .P bF 0), (14, .I k), (15, .P b30 0), (16, .map (some tb55)), (47, .slice al (li lf).length cl), (48, .I (((li lf).length : Nat) : Int)), (49, .I k)] ?_
       refine qG (sq 0 5) ?_
       refine qL .seq 68 (sq 1 5) 36 bO 0 0 (.slice ao2 od.length co2) (H.cells 1 rfl) ?_
       refine qL .seq 69 (sq 2 5) 3 b30 0 0 (.I ((lf[k] : Nat) : Int)) (H.cells 0 rfl) ?_
       refine RW.new (κ := .seq) (d := some 70) (r := (sq 3 5)) (o := .cells #[.I ((lf[k] : Nat) : Int)] 3 (0, 0)) (v := fun b => .slice (some ⟨b, 0, none⟩) 1 1) (fun b => by as_aux_lemma => kernel_rfl) (nofun) H ?_
       intro b60 w61 H
       have H := H.freeze 0 rfl (Shape.int .i64) ([((lf[k] : Nat) : Int)] : List Int) 1 (by simp [maxLen]) (by first | exact Nat.le_refl _ | simp) (EsP.cons (c := [.I ((lf[k] : Nat) : Int)]) i64a EsP.nil)
       have H : Hp w S O [(b30, .cells #[.I ((lf[k] : Nat) : Int)] 3 (0, 0)), (bO, .cells #[.slice ao2 od.length co2] 36 (0, 0)), (tm, mapO Value.string (Value.int .i64) TL2 tc2)] [⟨(Shape.int .i64), 3, .slice ao2 od.length co2, od⟩] [Rp (Shape.slice (Shape.int .i64)) [.slice (some ⟨b60, 0, none⟩) 1 1] ([((lf[k] : Nat) : Int)] : List Int), Fm tb55 (mapO Value.string Value.string L56 ct57), Rp (Shape.slice Shape.str) [.slice a7q43 ((hat hs lf[k]).names.length) k7q43] ((hat hs lf[k]).names), Rp SB [.slice a6q43 ((hat hs lf[k]).answer.length) k6q43] ((hat hs lf[k]).answer), Rp SB [.slice a4q43 ((hat hs lf[k]).data.length) k4q43] ((hat hs lf[k]).data), Fc b39 o40 [.int .u64 ((hat hs lf[k]).client), .int .u64 ((hat hs lf[k]).seq), .I ((hat hs lf[k]).kind), .string ((hat hs lf[k]).key), .slice a4q43 ((hat hs lf[k]).data.length) k4q43, .I ((hat hs lf[k]).code), .slice a6q43 ((hat hs lf[k]).answer.length) k6q43, .slice a7q43 ((hat hs lf[k]).names.length) k7q43, .I ((hat hs lf[k]).beg), .I ((hat hs lf[k]).fin)], Fc b25 o26 [.I ((lf[k] : Nat) : Int)], Rp (Shape.slice (Shape.int .i64)) [.slice al (li lf).length cl] (li lf), Fm tb (mapO Value.string Value.string L ct), Rp (Shape.slice wopS) [.slice a hs.length c] hs, Fc bh 0 [.slice a hs.length c], Fc bT 0 [.map (some tm)], Fc bF 0 [.func (.func 24) #[] #[.P bh 0, .P bT 0, .P bO 0, .P bF 0]], Fz tabsQ] _ := H
       refine RW.appendW (d := some 71) (r := (sq 4 5)) (T := 36) (ty := 36) (e := 3) (m := 1) (by_ := 8) (v := .slice ao2 od.length co2) (a2 := (some ⟨b60, 0, none⟩)) (l2 := 1) (c2 := 1) (zs := od ++ ([((lf[k] : Nat) : Int)] : List Int)) (by as_aux_lemma => kernel_rfl) (by as_aux_lemma => kernel_rfl) rfl H 0 rfl 0 rfl (rfl) (by simp; omega) ?_
       intro a62 c63 w65 H hc64
       have H : Hp w S O [(b30, .cells #[.I ((lf[k] : Nat) : Int)] 3 (0, 0)), (bO, .cells #[.slice ao2 od.length co2] 36 (0, 0)), (tm, mapO Value.string (Value.int .i64) TL2 tc2)] [⟨(Shape.int .i64), 3, .slice a62 ((od ++ ([((lf[k] : Nat) : Int)] : List Int)).length) c63, od ++ ([((lf[k] : Nat) : Int)] : List Int)⟩] [Rp (Shape.slice (Shape.int .i64)) [.slice (some ⟨b60, 0, none⟩) 1 1] ([((lf[k] : Nat) : Int)] : List Int), Fm tb55 (mapO Value.string Value.string L56 ct57), Rp (Shape.slice Shape.str) [.slice a7q43 ((hat hs lf[k]).names.length) k7q43] ((hat hs lf[k]).names), Rp SB [.slice a6q43 ((hat hs lf[k]).answer.length) k6q43] ((hat hs lf[k]).answer), Rp SB [.slice a4q43 ((hat hs lf[k]).data.length) k4q43] ((hat hs lf[k]).data), Fc b39 o40 [.int .u64 ((hat hs lf[k]).client), .int .u64 ((hat hs lf[k]).seq), .I ((hat hs lf[k]).kind), .string ((hat hs lf[k]).key), .slice a4q43 ((hat hs lf[k]).data.length) k4q43, .I ((hat hs lf[k]).code), .slice a6q43 ((hat hs lf[k]).answer.length) k6q43, .slice a7q43 ((hat hs lf[k]).names.length) k7q43, .I ((hat hs lf[k]).beg), .I ((hat hs lf[k]).fin)], Fc b25 o26 [.I ((lf[k] : Nat) : Int)], Rp (Shape.slice (Shape.int .i64)) [.slice al (li lf).length cl] (li lf), Fm tb (mapO Value.string Value.string L ct), Rp (Shape.slice wopS) [.slice a hs.length c] hs, Fc bh 0 [.slice a hs.length c], Fc bT 0 [.map (some tm)], Fc bF 0 [.func (.func 24) #[] #[.P bh 0, .P bT 0, .P bO 0, .P bF 0]], Fz tabsQ] _ := H
       refine qW 36 bO 0 (sq 5 5) (.slice a62 ((od ++ ([((lf[k] : Nat) : Int)] : List Int)).length) c63) [(b30, .cells #[.I ((lf[k] : Nat) : Int)] 3 (0, 0)), (bO, .cells #[.slice a62 ((od ++ ([((lf[k] : Nat) : Int)] : List Int)).length) c63] 36 (0, 0)), (tm, mapO Value.string (Value.int .i64) TL2 tc2)] H 1 rfl rfl ?_
       intro w66 H
       refine qF 0 [(0, .slice al (li lf).length cl), (1, .map (some tb)), (2, .P bh 0), (4, .P bO 0), (5, .P bF 0), (14, .I k), (16, .map (some tb55)), (47, .slice al (li lf).length cl), (48, .I (((li lf).length : Nat) : Int)), (49, .I k)] ?_
       refine qR 2 [.c [7, 0, 1, 0, 0, 2, 0, 0, 5, 0, 0], .c [7, 0, 1, 0, 0, 2, 0, 0, 5, 0, 1], .c [7, 0, 1, 0, 0, 2, 0, 0, 6], .b 3, .c [7, 0, 1, 0, 0, 3], .l [7, 0, 1, 0, 0], .b 2, .c [8]] [(0, .slice al (li lf).length cl), (1, .map (some tb)), (2, .P bh 0), (4, .P bO 0), (5, .P bF 0), (14, .I k), (16, .map (some tb55)), (47, .slice al (li lf).length cl), (48, .I (((li lf).length : Nat) : Int)), (49, .I k)] ?_
       refine WK.draw1 11 [(0, .qui), (1, .qui), (2, .qui), (3, .qui), (4, .qui), (5, .qui), (6, .qui), (7, .qui), (8, .qui), (10, .qui), (9, .chn)] [(0, .qui), (1, .qui), (2, .qui), (3, .qui), (4, .qui), (5, .qui), (6, .qui), (7, .qui), (8, .qui), (10, .qui), (9, .chn), (11, .seq)] Tryd_mixed (by as_aux_lemma => kernel_rfl) (by as_aux_lemma => kernel_rfl) (by as_aux_lemma => kernel_rfl) ?_
       have H := H.draw
       generalize ({ w66 with drawn := w66.drawn + 1 } : World) = w67 at H ⊢
       refine qL .qui 72 [(1, .qui), (2, .qui), (3, .qui), (4, .qui), (5, .qui), (6, .qui), (7, .qui), (8, .qui), (10, .qui), (9, .chn), (11, .seq)] 69 bF 0 0 (.func (.func 24) #[] #[.P bh 0, .P bT 0, .P bO 0, .P bF 0]) (H.fc 12 rfl) ?_
       refine qP 3 [(4, .qui), (5, .qui), (6, .qui), (7, .qui), (8, .qui), (10, .qui), (9, .chn), (11, .seq)] [(0, .slice al (li lf).length cl), (1, .map (some tb)), (2, .P bh 0), (4, .P bO 0), (5, .P bF 0), (14, .I k), (16, .map (some tb55)), (47, .slice al (li lf).length cl), (48, .I (((li lf).length : Nat) : Int)), (49, .I k), (72, .func (.func 24) #[] #[.P bh 0, .P bT 0, .P bO 0, .P bF 0]), (73, .slice al (li lf).length cl), (74, .I k), (75, .I k)] ?_
       refine RW.clipAt (κ := .qui) (d := some 76) (r := [(5, .qui), (6, .qui), (7, .qui), (8, .qui), (10, .qui), (9, .chn), (11, .seq)]) (T := 36) (e := 3) (sh := (Shape.int .i64)) (a := al) (len := (li lf).length) (cap := cl) (k := k) (k1 := .i64) (t1 := (k : Int)) (k2 := .i64) (t2 := (k : Int)) (by as_aux_lemma => kernel_rfl) (by as_aux_lemma => kernel_rfl) H 7 rfl (by omega) (by omega) (by omega) ?_
       intro H
       refine qP 2 [(7, .qui), (8, .qui), (10, .qui), (9, .chn), (11, .seq)] [(0, .slice al (li lf).length cl), (1, .map (some tb)), (2, .P bh 0), (4, .P bO 0), (5, .P bF 0), (16, .map (some tb55)), (47, .slice al (li lf).length cl), (48, .I (((li lf).length : Nat) : Int)), (49, .I k), (72, .func (.func 24) #[] #[.P bh 0, .P bT 0, .P bO 0, .P bF 0]), (76, .slice al k k), (77, .slice al (li lf).length cl), (78, .I k)] ?_
       refine qI .qui 79 [(8, .qui), (10, .qui), (9, .chn), (11, .seq)] ((k : Int) + 1) ?_
       refine RW.slice (κ := .qui) (d := some 80) (r := [(10, .qui), (9, .chn), (11, .seq)]) (T := 36) (e := 3) (sh := (Shape.int .i64)) (a := al) (len := (li lf).length) (cap := cl) (zs := ((li lf).drop (k + 1))) (lv := (some (.I ((k : Int) + 1)))) (hv := none) (by as_aux_lemma => kernel_rfl) (by as_aux_lemma => kernel_rfl) H 8 rfl (k + 1) (li lf).length (.mk (by omega)) .nil (by omega) (by omega) (by rw [List.take_of_length_le (Nat.le_refl _)]) ?_
       intro a68 H
       refine qP 1 [(9, .chn), (11, .seq)] [(0, .slice al (li lf).length cl), (1, .map (some tb)), (2, .P bh 0), (4, .P bO 0), (5, .P bF 0), (47, .slice al (li lf).length cl), (48, .I (((li lf).length : Nat) : Int)), (49, .I k), (72, .func (.func 24) #[] #[.P bh 0, .P bT 0, .P bO 0, .P bF 0]), (76, .slice al k k), (80, .slice a68 (((li lf).drop (k + 1)).length) (cl - (k + 1))), (82, .map (some tb55))] ?_
       refine RW.appendD (κ := .chn) (d := some 81) (r := [(11, .seq)]) (T := 36) (ty := 36) (e := 3) (m := 1) (by_ := 8) (a1 := al) (l1 := k) (a2 := a68) (l2 := (((li lf).drop (k + 1)).length)) (c2 := (cl - (k + 1))) (zs := (li (lf.eraseIdx k))) (by as_aux_lemma => kernel_rfl) (nofun) (by as_aux_lemma => kernel_rfl) rfl H 1 rfl 0 rfl (li_erase) (by rw [li_len]; omega) ?_
       intro a69 c70 w71 H
       have H := H.frontM 2 (M' := [(tm, mapO Value.string (Value.int .i64) TL2 tc2), (b30, .cells #[.I ((lf[k] : Nat) : Int)] 3 (0, 0)), (bO, .cells #[.slice a62 ((od ++ ([((lf[k] : Nat) : Int)] : List Int)).length) c63] 36 (0, 0))]) rfl
       have H := H.frontM 2 (M' := [(bO, .cells #[.slice a62 ((od ++ ([((lf[k] : Nat) : Int)] : List Int)).length) c63] 36 (0, 0)), (tm, mapO Value.string (Value.int .i64) TL2 tc2), (b30, .cells #[.I ((lf[k] : Nat) : Int)] 3 (0, 0))]) rfl
       refine RW.callS (d := some 83) (r := []) (g := 24) (args := #[.slice a69 ((li (lf.eraseIdx k)).length) c70, .map (some tb55), .P bh 0, .P bT 0, .P bO 0, .P bF 0]) (by as_aux_lemma => kernel_rfl) (IH _ hlt (lf := lf.eraseIdx k) rfl hlf2 hhl hsz hT58 hzs2 hzl2 ((lf, Sx) :: stk) hstk2 hinv1.2.1 (by simp only [List.length_append, List.length_cons, List.length_nil]; omega) ((H.lend (M1 := [(bO, .cells #[.slice a62 ((od ++ ([((lf[k] : Nat) : Int)] : List Int)).length) c63] 36 (0, 0)), (tm, mapO Value.string (Value.int .i64) TL2 tc2)]) (W1 := [⟨(Shape.int .i64), 3, .slice a62 ((od ++ ([((lf[k] : Nat) : Int)] : List Int)).length) c63, od ++ ([((lf[k] : Nat) : Int)] : List Int)⟩])).pick [0, 4, 12, 13, 14, 15, 16] rfl)) ?_
       rintro _ w72 ⟨bx73, od74, ao75, co76, TL77, tc78, rfl, hbx79, hbn80, H'⟩
       have H := H.back (M1 := [(bO, .cells #[.slice a62 ((od ++ ([((lf[k] : Nat) : Int)] : List Int)).length) c63] 36 (0, 0)), (tm, mapO Value.string (Value.int .i64) TL2 tc2)]) (W1 := [⟨(Shape.int .i64), 3, .slice a62 ((od ++ ([((lf[k] : Nat) : Int)] : List Int)).length) c63, od ++ ([((lf[k] : Nat) : Int)] : List Int)⟩]) H'
       have H : Hp w S O [(bO, .cells #[.slice ao75 od74.length co76] 36 (0, 0)), (tm, mapO Value.string (Value.int .i64) TL77 tc78), (b30, .cells #[.I ((lf[k] : Nat) : Int)] 3 (0, 0))] [⟨(Shape.int .i64), 3, .slice ao75 od74.length co76, od74⟩] [Rp (Shape.slice (Shape.int .i64)) [.slice a69 ((li (lf.eraseIdx k)).length) c70] (li (lf.eraseIdx k)), Rp (Shape.slice (Shape.int .i64)) [.slice a68 (((li lf).drop (k + 1)).length) (cl - (k + 1))] ((li lf).drop (k + 1)), Rp (Shape.slice (Shape.int .i64)) [.slice al k k] ((li lf).take k), Rp (Shape.slice (Shape.int .i64)) [.slice (some ⟨b60, 0, none⟩) 1 1] ([((lf[k] : Nat) : Int)] : List Int), Fm tb55 (mapO Value.string Value.string L56 ct57), Rp (Shape.slice Shape.str) [.slice a7q43 ((hat hs lf[k]).names.length) k7q43] ((hat hs lf[k]).names), Rp SB [.slice a6q43 ((hat hs lf[k]).answer.length) k6q43] ((hat hs lf[k]).answer), Rp SB [.slice a4q43 ((hat hs lf[k]).data.length) k4q43] ((hat hs lf[k]).data), Fc b39 o40 [.int .u64 ((hat hs lf[k]).client), .int .u64 ((hat hs lf[k]).seq), .I ((hat hs lf[k]).kind), .string ((hat hs lf[k]).key), .slice a4q43 ((hat hs lf[k]).data.length) k4q43, .I ((hat hs lf[k]).code), .slice a6q43 ((hat hs lf[k]).answer.length) k6q43, .slice a7q43 ((hat hs lf[k]).names.length) k7q43, .I ((hat hs lf[k]).beg), .I ((hat hs lf[k]).fin)], Fc b25 o26 [.I ((lf[k] : Nat) : Int)], Rp (Shape.slice (Shape.int .i64)) [.slice al (li lf).length cl] (li lf), Fm tb (mapO Value.string Value.string L ct), Rp (Shape.slice wopS) [.slice a hs.length c] hs, Fc bh 0 [.slice a hs.length c], Fc bT 0 [.map (some tm)], Fc bF 0 [.func (.func 24) #[] #[.P bh 0, .P bT 0, .P bO 0, .P bF 0]], Fz tabsQ] _ := H
       refine qF 0 [(0, .slice al (li lf).length cl), (1, .map (some tb)), (2, .P bh 0), (4, .P bO 0), (5, .P bF 0), (47, .slice al (li lf).length cl), (48, .I (((li lf).length : Nat) : Int)), (49, .I k), (83, .bool bx73)] ?_
       refine qC bx73 (fun h81 => ?_) (fun h81 => ?_)
       ·
        have hgo : Goes hs lf Sx k hk1 := ⟨hfr, hdo, hbx79.1 h81⟩
        refine qR 2 [.c [7, 0, 1, 0, 0, 2, 0, 0, 5, 0, 1, 0, 1], .c [7, 0, 1, 0, 0, 2, 0, 0, 6], .b 3, .c [7, 0, 1, 0, 0, 3], .l [7, 0, 1, 0, 0], .b 2, .c [8]] [(8, .bool true)] ?_
        refine qT (.bool true) Tryd.func24 ?_
        have H := H.drop (M' := [_, _]) (W' := [_]) (by repeat (first | exact List.Sublist.refl _ | exact List.nil_sublist _ | apply List.Sublist.cons_cons | apply List.Sublist.cons)) (by repeat (first | exact List.Sublist.refl _ | exact List.nil_sublist _ | apply List.Sublist.cons_cons | apply List.Sublist.cons))
        exact ⟨_, rfl, _, _, _, _, _, _, rfl, ⟨fun _ => hgo.ex, fun _ => rfl⟩, fun q => (by cases q), H.pick [] rfl⟩
       ·
        have hn : ¬ Goes hs lf Sx k hk1 := fun q => absurd (hbx79.2 q.2.2) (by simp [*])
        obtain ⟨rfl, hmo2⟩ := hbn80 (by simpa using h81)
        have hol : (od ++ ([((lf[k] : Nat) : Int)] : List Int)).length = od.length + 1 := by simp
        refine qR 1 [.c [7, 0, 1, 0, 0, 2, 0, 0, 6], .b 3, .c [7, 0, 1, 0, 0, 3], .l [7, 0, 1, 0, 0], .b 2, .c [8]] [(0, .slice al (li lf).length cl), (1, .map (some tb)), (2, .P bh 0), (4, .P bO 0), (5, .P bF 0), (47, .slice al (li lf).length cl), (48, .I (((li lf).length : Nat) : Int)), (49, .I k)] ?_
        refine qG (sq 0 6) ?_
        refine qL .seq 84 (sq 1 6) 36 bO 0 0 (.slice ao75 ((od ++ ([((lf[k] : Nat) : Int)] : List Int)).length) co76) (H.cells 0 rfl) ?_
        refine qL .seq 85 (sq 2 6) 36 bO 0 0 (.slice ao75 ((od ++ ([((lf[k] : Nat) : Int)] : List Int)).length) co76) (H.cells 0 rfl) ?_
        refine qP 1 (sq 3 6) [(0, .slice al (li lf).length cl), (1, .map (some tb)), (2, .P bh 0), (4, .P bO 0), (5, .P bF 0), (47, .slice al (li lf).length cl), (48, .I (((li lf).length : Nat) : Int)), (49, .I k), (84, .slice ao75 ((od ++ ([((lf[k] : Nat) : Int)] : List Int)).length) co76), (86, .I (((od ++ ([((lf[k] : Nat) : Int)] : List Int)).length : Nat) : Int))] ?_
        refine qI .seq 87 (sq 4 6) ((((od ++ ([((lf[k] : Nat) : Int)] : List Int)).length : Nat) : Int) - 1) ?_
        obtain ⟨_, _, hq1, hq2, -⟩ := H.ownForm 0 rfl
        injection hq1 with _ _ hq3
        refine RW.readS (κ := .seq) (d := some 88) (r := (sq 5 6)) (s := semV (Instr.sliceAt 36 (.slice ao75 ((od ++ ([((lf[k] : Nat) : Int)] : List Int)).length) co76) none (some (.I ((((od ++ ([((lf[k] : Nat) : Int)] : List Int)).length : Nat) : Int) - 1))) none)) (v := .slice ao75 od.length co76) (by as_aux_lemma => kernel_rfl) (fun w' _ => semV_run (sliceAt_run0 (e := 3) (m := 1) (by as_aux_lemma => kernel_rfl) (hi := od.length) (.mk (by omega)) (by omega))) ?_
        have H := (H.shortW (k := od.length) (by omega)).reW (ys := od) (by simp)
        have H : Hp w S O [(bO, .cells #[.slice ao75 ((od ++ ([((lf[k] : Nat) : Int)] : List Int)).length) co76] 36 (0, 0)), (tm, mapO Value.string (Value.int .i64) TL77 tc78), (b30, .cells #[.I ((lf[k] : Nat) : Int)] 3 (0, 0))] [⟨(Shape.int .i64), 3, .slice ao75 od.length co76, od⟩] [Rp (Shape.slice (Shape.int .i64)) [.slice a69 ((li (lf.eraseIdx k)).length) c70] (li (lf.eraseIdx k)), Rp (Shape.slice (Shape.int .i64)) [.slice a68 (((li lf).drop (k + 1)).length) (cl - (k + 1))] ((li lf).drop (k + 1)), Rp (Shape.slice (Shape.int .i64)) [.slice al k k] ((li lf).take k), Rp (Shape.slice (Shape.int .i64)) [.slice (some ⟨b60, 0, none⟩) 1 1] ([((lf[k] : Nat) : Int)] : List Int), Fm tb55 (mapO Value.string Value.string L56 ct57), Rp (Shape.slice Shape.str) [.slice a7q43 ((hat hs lf[k]).names.length) k7q43] ((hat hs lf[k]).names), Rp SB [.slice a6q43 ((hat hs lf[k]).answer.length) k6q43] ((hat hs lf[k]).answer), Rp SB [.slice a4q43 ((hat hs lf[k]).data.length) k4q43] ((hat hs lf[k]).data), Fc b39 o40 [.int .u64 ((hat hs lf[k]).client), .int .u64 ((hat hs lf[k]).seq), .I ((hat hs lf[k]).kind), .string ((hat hs lf[k]).key), .slice a4q43 ((hat hs lf[k]).data.length) k4q43, .I ((hat hs lf[k]).code), .slice a6q43 ((hat hs lf[k]).answer.length) k6q43, .slice a7q43 ((hat hs lf[k]).names.length) k7q43, .I ((hat hs lf[k]).beg), .I ((hat hs lf[k]).fin)], Fc b25 o26 [.I ((lf[k] : Nat) : Int)], Rp (Shape.slice (Shape.int .i64)) [.slice al (li lf).length cl] (li lf), Fm tb (mapO Value.string Value.string L ct), Rp (Shape.slice wopS) [.slice a hs.length c] hs, Fc bh 0 [.slice a hs.length c], Fc bT 0 [.map (some tm)], Fc bF 0 [.func (.func 24) #[] #[.P bh 0, .P bT 0, .P bO 0, .P bF 0]], Fz tabsQ] _ := H
        refine qW 36 bO 0 (sq 6 6) (.slice ao75 od.length co76) [(bO, .cells #[.slice ao75 od.length co76] 36 (0, 0)), (tm, mapO Value.string (Value.int .i64) TL77 tc78), (b30, .cells #[.I ((lf[k] : Nat) : Int)] 3 (0, 0))] H 0 rfl rfl ?_
        intro w82 H
        refine qF 0 [(0, .slice al (li lf).length cl), (1, .map (some tb)), (2, .P bh 0), (4, .P bO 0), (5, .P bF 0), (47, .slice al (li lf).length cl), (48, .I (((li lf).length : Nat) : Int)), (49, .I k)] ?_
        refine qR 1 [.c [7, 0, 1, 0, 0, 3], .l [7, 0, 1, 0, 0], .b 2, .c [8]] [(0, .slice al (li lf).length cl), (1, .map (some tb)), (2, .P bh 0), (4, .P bO 0), (5, .P bF 0), (47, .slice al (li lf).length cl), (48, .I (((li lf).length : Nat) : Int)), (49, .I k)] ?_
        refine qG (sq 0 2) ?_
        refine qI .seq 89 (sq 1 2) ((k : Int) + 1) ?_
        refine qF 1 [(0, .slice al (li lf).length cl), (1, .map (some tb)), (2, .P bh 0), (4, .P bO 0), (5, .P bF 0), (47, .slice al (li lf).length cl), (48, .I (((li lf).length : Nat) : Int)), (49, .I ((k : Int) + 1))] ?_
        have H := H.pick [10, 11, 12, 13, 14, 15, 16] rfl
        have H := H.drop (M' := [(bO, .cells #[.slice ao75 od.length co76] 36 (0, 0)), (tm, mapO Value.string (Value.int .i64) TL77 tc78)]) (W' := [⟨(Shape.int .i64), 3, .slice ao75 od.length co76, od⟩]) (by repeat (first | exact List.Sublist.refl _ | apply List.Sublist.cons_cons | apply List.Sublist.cons)) (by repeat (first | exact List.Sublist.refl _ | apply List.Sublist.cons_cons | apply List.Sublist.cons))
        exact WK.back (hback21 (k + 1, ao75, co76, TL77, tc78) _ ⟨H, by omega, hmo2, hinv1.2.2.step hk1 hn⟩ (by first | omega | (simp only []; omega))) (by as_aux_lemma => kernel_rfl)
    ·
     refine qR 3 [.c [9]] [(8, .bool false)] ?_
     refine qT (.bool false) Tryd.func24 ?_
     have H := H.drop (M' := [_, _]) (W' := [_]) (by repeat (first | exact List.Sublist.refl _ | exact List.nil_sublist _ | apply List.Sublist.cons_cons | apply List.Sublist.cons)) (by repeat (first | exact List.Sublist.refl _ | exact List.nil_sublist _ | apply List.Sublist.cons_cons | apply List.Sublist.cons))
     exact ⟨_, rfl, _, _, _, _, _, _, rfl, ⟨fun q => (by cases q), fun q => absurd q (hinv1.2.2.none (by omega) ho)⟩, fun _ => ⟨rfl, hinv1.2.1.pop (hinv1.2.2.none (by omega) ho)⟩, H.pick [] rfl⟩
end Go.Proofs.YtcodkepdolmmbaaDoor
