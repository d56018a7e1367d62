import Derived.Test.YtppcdmbkgficiaaSV4
namespace Go.Proofs.Ytppcdmbkgficiaa
open Go.BX
def toL (n m : Nat) : List Int := (List.range m).map fun i : Nat => (n : Int) + 1 - (i : Int)
theorem toL_len (n m : Nat) : (toL n m).length = m := by simp [toL]
theorem toL_get {n m i : Nat} (h : i < m) : (toL n m)[i]? = some ((n : Int) + 1 - (i : Int)) := by simp [toL, h]
theorem toL_snoc (n m : Nat) : toL n m ++ [(n : Int) + 1 - (m : Int)] = toL n (m + 1) := by simp [toL, List.range_succ]
def objTo (xs : List (BitVec 8)) (n : Nat) : ObjD := { objOf xs n with epoch := 3, nodes := toL n n }
def mW (xs : List (BitVec 8)) (k n : Nat) : Wr := beginW 0 0 ⟨#[97]⟩ xs k n ⟨0, 7, toL n n, 3⟩ 100
def hdM (xs : List (BitVec 8)) (k n i : Nat) : Hdr := ⟨⟨7, (i : Int), 3⟩, (k : Int), (n : Int), (xs.length : Int), crcF (rowAt (enc xs k n) i)⟩
theorem asks_all {r : Rd} (h1 : r.bad = []) (h2 : r.pieces = []) : ∀ n, (asksTo r n).length = n
 | 0 => rfl
 | n + 1 => by
  rw [← asksTo_yes (by unfold openR; rw [h1, h2]; simp), List.length_append, asks_all h1 h2 n]; rfl
theorem masks_len {xs : List (BitVec 8)} {k n : Nat} {limit : Int} : (asksR (beginR (objOf xs n) (k : Int) (n : Int) limit)).length = n := by
 unfold asksR
 rw [asks_all rfl rfl]
 exact nodesTo_len n
structure Rv (xs : List (BitVec 8)) (k n : Nat) (f : Nat → Nat) (s : Shf) (x : Nat) : Prop where
 rd : Ov xs k n (objOf xs n) f s.read x
 lim : s.read.limit = 100
 dn : s.done = 0
 ry : s.ready = false
 to : s.to = toL n n
 ep : s.epoch = 3
theorem Rv.begin {xs : List (BitVec 8)} {k n : Nat} (f : Nat → Nat) (hk : 1 ≤ k) (hkn : k ≤ n) (hn : n ≤ 255) (hs : xs.length ≤ 65536) : Rv xs k n f (mbegR (objOf xs n) (k : Int) (n : Int) (toL n n) 3 100) 0 :=
 ⟨Ov.begin f hk hkn hn hs, rfl, rfl, rfl, rfl, rfl⟩
theorem Rv.got {xs : List (BitVec 8)} {k n : Nat} {f : Nat → Nat} {s : Shf} {x : Nat} (h : Rv xs k n f s x) (hx : x < k) (hf : f x < n) (hne : ∀ j < x, f j ≠ f x) : Ov xs k n (objOf xs n) f (gotR s.read (((f x : Nat) : Int) + 1) (hdAt xs k n (f x)) (rowAt (enc xs k n) (f x)) true) (x + 1) :=
 h.rd.step hx hf hne (hit_own h.rd.ob hf rfl) (head_own h.rd.of h.rd.ob)
theorem Rv.step {xs : List (BitVec 8)} {k n : Nat} {f : Nat → Nat} {s s2 : Shf} {L : List Msg} {x : Nat} (h : Rv xs k n f s x) (hx : x + 1 < k) (hf : f x < n) (hne : ∀ j < x, f j ≠ f x) (e : s2 = mgotR s (((f x : Nat) : Int) + 1) (hdAt xs k n (f x)) (rowAt (enc xs k n) (f x)) true xs k n)
 (eL : L = mgotL s (((f x : Nat) : Int) + 1) (hdAt xs k n (f x)) (rowAt (enc xs k n) (f x)) true xs k n) : Rv xs k n f s2 (x + 1) ∧ L = [] := by
 have hg := h.got (by omega) hf hne
 have hd : (gotR s.read (((f x : Nat) : Int) + 1) (hdAt xs k n (f x)) (rowAt (enc xs k n) (f x)) true).done = 0 := by rw [hg.dn, if_neg (by omega)]
 unfold mgotR at e
 unfold mgotL at eL
 rw [hd, if_neg (by decide)] at e eL
 subst e eL
 refine ⟨⟨hg, got_keep.2.trans h.lim, ?_, h.ry, h.to, h.ep⟩, rfl⟩
 show (if (gotR s.read _ (hdAt xs k n (f x)) _ true).done = 2 then _ else s.done) = 0
 rw [hd, if_neg (by decide), h.dn]
def ackL (n : Nat) (seen : List Int) : List Int := ((List.range n).map fun k : Nat => (k : Int)).filter fun k => decide (k ∈ seen)
def seenOf (g : Nat → Nat) (x : Nat) : List Int := (List.range x).map fun j => ((g j : Nat) : Int)
def mD (xs : List (BitVec 8)) (k n : Nat) (g : Nat → Nat) (x : Nat) : Wr := { mW xs k n with acks := ackL n (seenOf g x), done := if x = n then 1 else 0 }
structure Qv (xs : List (BitVec 8)) (k n : Nat) (g : Nat → Nat) (s : Shf) (x : Nat) : Prop where
 wr : s.write = mD xs k n g x
 dn : s.done = if x = n then 1 else 0
 ry : s.ready = true
theorem mD_zero {xs : List (BitVec 8)} {k n : Nat} {g : Nat → Nat} (hn : 1 ≤ n) : mD xs k n g 0 = mW xs k n := by
 unfold mD ackL seenOf mW beginW
 rw [if_neg (by omega)]
 simp
theorem Rv.last {xs : List (BitVec 8)} {k n : Nat} {f : Nat → Nat} (g : Nat → Nat) {s s2 : Shf} {L : List Msg} {x : Nat} (h : Rv xs k n f s x) (hx : x + 1 = k) (hf : f x < n) (hne : ∀ j < x, f j ≠ f x) (e : s2 = mgotR s (((f x : Nat) : Int) + 1) (hdAt xs k n (f x)) (rowAt (enc xs k n) (f x)) true xs k n)
 (eL : L = mgotL s (((f x : Nat) : Int) + 1) (hdAt xs k n (f x)) (rowAt (enc xs k n) (f x)) true xs k n) : Qv xs k n g s2 0 ∧ L = msgsOf (mW xs k n) := by
 have hkn := h.rd.of.hkn
 have hg := h.got (by omega) hf hne
 have hd : (gotR s.read (((f x : Nat) : Int) + 1) (hdAt xs k n (f x)) (rowAt (enc xs k n) (f x)) true).done = 1 := by rw [hg.dn, if_pos (by omega)]
 have hw : (mdoneR s (((f x : Nat) : Int) + 1) (hdAt xs k n (f x)) (rowAt (enc xs k n) (f x)) true xs k n).write = mW xs k n := by
  show wrOf _ s.to s.epoch xs k n = _
  unfold wrOf mW
  rw [got_keep.1, got_keep.2, h.lim, h.to, h.ep, h.rd.ob]
  rfl
 unfold mgotR at e
 unfold mgotL at eL
 rw [if_pos hd] at e eL
 subst e eL
 refine ⟨⟨by rw [mD_zero (by omega)]; exact hw, ?_, rfl⟩, by rw [hw]⟩
 show (if (gotR s.read _ (hdAt xs k n (f x)) _ true).done = 2 then _ else s.done) = _
 rw [hd, if_neg (by decide), h.dn, if_neg (by omega)]
theorem mW_heads {xs : List (BitVec 8)} {k n : Nat} (hkn : k ≤ n) : (mW xs k n).heads.length = n := by
 show (headsOf _ _ _ (enc xs k n)).length = n
 rw [headsOf_len, enc_len hkn]
theorem mW_chunks {xs : List (BitVec 8)} {k n : Nat} (hkn : k ≤ n) : (mW xs k n).chunks.length = n := enc_len hkn
theorem mD_right {xs : List (BitVec 8)} {k n : Nat} {g : Nat → Nat} {x : Nat} (hkn : k ≤ n) : rightW (mD xs k n g x) = true := by
 unfold rightW
 rw [show (mD xs k n g x).heads.length = n from mW_heads hkn, show (mD xs k n g x).chunks.length = n from mW_chunks hkn, show (mD xs k n g x).nodes.length = n from toL_len n n]
 exact decide_eq_true ⟨rfl, rfl⟩
theorem mW_head {xs : List (BitVec 8)} {k n i : Nat} (hkn : k ≤ n) (hi : i < n) : (mW xs k n).heads[i]? = some (hdM xs k n i) := by
 have hl : i < (enc xs k n).length := by rw [enc_len hkn]; exact hi
 have h := headsOf_get (id := ⟨7, 0, 3⟩) (size := xs.length) (k := k) hl
 rw [enc_len hkn] at h
 unfold hdM
 rw [rowAt_eq hl]
 exact h
theorem mhit {xs : List (BitVec 8)} {k n c i : Nat} {g : Nat → Nat} {x : Nat} (hkn : k ≤ n) (hc : c < n) (hi : i < n) : hitW (mD xs k n g x) ((n : Int) + 1 - (c : Int)) (hdM xs k n c) i = decide (i = c) := by
 unfold hitW
 show (decide ((mW xs k n).heads[i]? = some (hdM xs k n c)) && decide ((toL n n)[i]? = some _)) = _
 rw [mW_head hkn hi, toL_get hi]
 by_cases hic : i = c
 · subst hic
   simp
 · rw [decide_eq_false hic, decide_eq_false, Bool.false_and]
   intro e
   have e2 := congrArg (fun h : Hdr => h.id.index) (Option.some.inj e)
   exact hic (Int.ofNat.inj e2)
theorem mem_ackL {n : Nat} {seen : List Int} {x : Int} : x ∈ ackL n seen ↔ (0 ≤ x ∧ x < n) ∧ x ∈ seen := by
 unfold ackL
 rw [List.mem_filter, List.mem_map, decide_eq_true_iff]
 constructor
 · rintro ⟨⟨k, hk, rfl⟩, h⟩
   have := List.mem_range.1 hk
   exact ⟨⟨by omega, by omega⟩, h⟩
 · rintro ⟨⟨h1, h2⟩, h⟩
   exact ⟨⟨x.toNat, List.mem_range.2 (by omega), by omega⟩, h⟩
theorem ackL_len {n : Nat} {seen : List Int} (hd : seen.Nodup) (hs : ∀ x ∈ seen, 0 ≤ x ∧ x < (n : Int)) : (ackL n seen).length = seen.length := by
 have hn : (ackL n seen).Nodup := by
  refine List.filter_sublist.nodup ?_
  exact List.Pairwise.map _ (fun a b h e => h (by omega)) List.nodup_range
 exact ((List.perm_ext_iff_of_nodup hn hd).2 fun x => by
  rw [mem_ackL]
  exact ⟨fun h => h.2, fun h => ⟨hs x h, h⟩⟩).length_eq
theorem seenOf_succ (g : Nat → Nat) (x : Nat) : seenOf g x ++ [((g x : Nat) : Int)] = seenOf g (x + 1) := by
 unfold seenOf
 rw [List.range_succ, List.map_append]; rfl
theorem macks {xs : List (BitVec 8)} {k n : Nat} {g : Nat → Nat} {x : Nat} : acksOf (mD xs k n g x) (g x) n = ackL n (seenOf g (x + 1)) := by
 rw [← seenOf_succ]
 unfold acksOf ackL
 refine List.filter_congr fun y hy => ?_
 obtain ⟨q, hq, rfl⟩ := List.mem_map.1 hy
 have hq := List.mem_range.1 hq
 have h1 : ((q : Int) ∈ (mD xs k n g x).acks) ↔ (q : Int) ∈ seenOf g x := by
  show (q : Int) ∈ ackL n (seenOf g x) ↔ _
  rw [mem_ackL]
  exact ⟨fun h => h.2, fun h => ⟨⟨by omega, by omega⟩, h⟩⟩
 rw [Bool.eq_iff_iff, Bool.or_eq_true, decide_eq_true_iff, decide_eq_true_iff, decide_eq_true_iff, h1, List.mem_append, List.mem_singleton]
 exact Or.comm
theorem mgot_D {xs : List (BitVec 8)} {k n : Nat} {g : Nat → Nat} {x : Nat} (hkn : k ≤ n) (hx : x < n) (hg : ∀ j ≤ x, g j < n) (hne : ∀ i j, i < j → j ≤ x → g i ≠ g j) {frm : Int} {hd : Hdr} (hf : frm = (n : Int) + 1 - ((g x : Nat) : Int)) (hh : hd = hdM xs k n (g x)) :
 gotOf (mD xs k n g x) 10 frm hd true = (mD xs k n g (x + 1), if x + 1 = n then 1 else 0) := by
 subst hf hh
 have hL : (mD xs k n g x).heads.length = n := mW_heads hkn
 have hc := hg x (Nat.le_refl _)
 have hd0 : (mD xs k n g x).done = 0 := if_neg (by omega)
 unfold gotOf
 rw [if_neg (by rw [mD_right hkn, hd0]; simp), hL]
 have hfi : (List.range n).find? (hitW (mD xs k n g x) ((n : Int) + 1 - ((g x : Nat) : Int)) (hdM xs k n (g x))) = some (g x) := by
  have := find_hit (W := mD xs k n g x) (frm := (n : Int) + 1 - ((g x : Nat) : Int)) (hd := hdM xs k n (g x)) (i := g x) (by rw [hL]; exact hc) (by rw [mhit hkn hc hc]; simp) fun j hj => by
   rw [mhit hkn hc (by omega)]
   simp
   omega
  rwa [hL] at this
 rw [hfi]
 simp only [macks]
 have hlen : (ackL n (seenOf g (x + 1))).length = x + 1 := by
  rw [ackL_len]
  · simp [seenOf]
  · unfold seenOf
    rw [List.Nodup, List.pairwise_map]
    refine List.Pairwise.imp_of_mem (fun {a b} ha hb hab => ?_) (List.pairwise_lt_range (n := x + 1))
    intro e
    exact hne a b hab (by have := List.mem_range.1 hb; omega) (Int.ofNat.inj e)
  · intro y hy
    obtain ⟨j, hj, rfl⟩ := List.mem_map.1 hy
    have h1 := hg j (by have := List.mem_range.1 hj; omega)
    omega
 rw [if_neg (by decide), hlen]
 by_cases hl : x + 1 = n
 · rw [if_pos hl]
   unfold mD
   simp only [if_pos hl]
 · rw [if_neg hl, hd0]
   unfold mD
   simp only [if_neg hl, if_neg (show ¬ x = n by omega)]
theorem Qv.step {xs : List (BitVec 8)} {k n : Nat} {g : Nat → Nat} {s s2 : Shf} {x : Nat} (h : Qv xs k n g s x) (hkn : k ≤ n) (hx : x < n) (hg : ∀ j ≤ x, g j < n) (hne : ∀ i j, i < j → j ≤ x → g i ≠ g j) {frm : Int} {hd : Hdr} (hf : frm = (n : Int) + 1 - ((g x : Nat) : Int)) (hh : hd = hdM xs k n (g x)) (e : s2 = mwriteR s frm hd true) : Qv xs k n g s2 (x + 1) := by
 subst e
 have hq := mgot_D (xs := xs) hkn hx hg hne hf hh
 rw [← h.wr] at hq
 exact ⟨congrArg Prod.fst hq, congrArg Prod.snd hq, h.ry⟩
theorem Qv.e {xs : List (BitVec 8)} {k n : Nat} {g : Nat → Nat} {s : Shf} {x : Nat} (h : Qv xs k n g s x) (hkn : k ≤ n) (hx : x < n) (hg : ∀ j ≤ x, g j < n) (hne : ∀ i j, i < j → j ≤ x → g i ≠ g j) {frm : Int} {hd : Hdr} (hf : frm = (n : Int) + 1 - ((g x : Nat) : Int)) (hh : hd = hdM xs k n (g x)) : ∀ e, (gotOf s.write 10 frm hd true).2 = e → -9223372036854775808 ≤ e ∧ e ≤ 9223372036854775807 := by
 intro e he
 have hq := mgot_D (xs := xs) hkn hx hg hne hf hh
 rw [h.wr, hq] at he
 rw [← he]
 show _ ≤ (if x + 1 = n then (1 : Int) else 0) ∧ (if x + 1 = n then (1 : Int) else 0) ≤ _
 split <;> decide
theorem Qv.hl {xs : List (BitVec 8)} {k n : Nat} {g : Nat → Nat} {s : Shf} {x : Nat} (h : Qv xs k n g s x) (hkn : k ≤ n) : s.write.heads.length = n := by
 rw [h.wr]; exact mW_heads hkn
theorem mmsgs_all {xs : List (BitVec 8)} {k n : Nat} (hkn : k ≤ n) {i : Nat} (hi : i < n) : (msgsOf (mW xs k n))[i]? = some (prepOf (mW xs k n) i) := by
 have hL : (mW xs k n).heads.length = n := mW_heads hkn
 have ha : (mW xs k n).acks = [] := rfl
 unfold msgsOf
 rw [hL]
 have : ∀ m, msgsTo (mW xs k n) m = (List.range m).map (prepOf (mW xs k n)) := by
  intro m
  induction m with
  | zero => rfl
  | succ m ih => rw [← msgsTo_yes (by rw [ha]; simp), ih, List.range_succ, List.map_append]; rfl
 rw [this]
 simp [hi]
theorem mmsgs_len {xs : List (BitVec 8)} {k n : Nat} (hkn : k ≤ n) : (msgsOf (mW xs k n)).length = n := by
 have hL : (mW xs k n).heads.length = n := mW_heads hkn
 have : ∀ m, (msgsTo (mW xs k n) m).length = m := by
  intro m
  induction m with
  | zero => rfl
  | succ m ih => rw [← msgsTo_yes (by show ¬ _ ∈ ([] : List Int); simp), List.length_append, ih]; rfl
 unfold msgsOf
 rw [hL, this]
theorem mprep_head {xs : List (BitVec 8)} {k n i : Nat} (hkn : k ≤ n) (hi : i < n) : (prepOf (mW xs k n) i).head = hdM xs k n i := by
 have hl : i < (mW xs k n).heads.length := by rw [mW_heads hkn]; exact hi
 have h := mW_head (xs := xs) hkn hi
 show (mW xs k n).heads.getD i _ = _
 rw [getD_at _ hl]
 rw [List.getElem?_eq_getElem hl] at h
 exact Option.some.inj h
theorem mprep_data {xs : List (BitVec 8)} {k n i : Nat} (hkn : k ≤ n) (hi : i < n) : (prepOf (mW xs k n) i).data = rowAt (enc xs k n) i := by
 have hl : i < (enc xs k n).length := by rw [enc_len hkn]; exact hi
 show (enc xs k n).getD i [] = _
 rw [getD_at _ hl, rowAt_eq hl]
theorem mprep_to {xs : List (BitVec 8)} {k n i : Nat} (hi : i < n) : (prepOf (mW xs k n) i).to = (n : Int) + 1 - (i : Int) := by
 have hl : i < (toL n n).length := by rw [toL_len]; exact hi
 show (toL n n).getD i 0 = _
 rw [getD_at _ hl]
 have := toL_get (n := n) hi
 rw [List.getElem?_eq_getElem hl] at this
 exact Option.some.inj this
theorem RdOf.begin2 {xs : List (BitVec 8)} {k n : Nat} {limit : Int} (hk : 1 ≤ k) (hkn : k ≤ n) (hn : n ≤ 255) (hs : xs.length ≤ 65536) : RdOf xs k n (beginR (objTo xs n) (k : Int) (n : Int) limit) :=
 { RdOf.begin (limit := limit) hk hkn hn hs with nodes := toL_len n n }
theorem Ov.begin2 {xs : List (BitVec 8)} {k n : Nat} {limit : Int} (f : Nat → Nat) (hk : 1 ≤ k) (hkn : k ≤ n) (hn : n ≤ 255) (hs : xs.length ≤ 65536) : Ov xs k n (objTo xs n) f (beginR (objTo xs n) (k : Int) (n : Int) limit) 0 :=
 ⟨RdOf.begin2 hk hkn hn hs, rfl, rfl, rfl, by rw [if_neg (by omega)]; rfl⟩
theorem rdB_begin2 {xs : List (BitVec 8)} {k n : Nat} (hk : 1 ≤ k) (hkn : k ≤ n) (hn : n ≤ 255) (hs : xs.length ≤ 65536) : rdB (beginR (objTo xs n) (k : Int) (n : Int) 100) := by
 obtain ⟨h0, h1, h2, h3, _, h5⟩ := rdB_begin hk hkn hn hs
 exact ⟨h0, h1, h2, h3, ⟨by show (0 : Int) ≤ 3; decide, by show (3 : Int) ≤ _; decide⟩, h5⟩
theorem okB_begin2 {xs : List (BitVec 8)} {k n : Nat} (hk : 1 ≤ k) (hkn : k ≤ n) (hn : n ≤ 255) (hs : xs.length ≤ 65536) : okB (objTo xs n) (k : Int) (n : Int) 100 := by
 obtain ⟨h1, h2, h3, _, h5⟩ := okB_begin (xs := xs) hk hkn hn hs
 exact ⟨h1, h2, h3, by rw [show (objTo xs n).nodes.length = n from toL_len n n], h5⟩
def dAt (n x : Nat) : Nat := n - 1 - x
structure Tv (xs : List (BitVec 8)) (k n : Nat) (r : Rd) (x : Nat) : Prop where
 ov : Ov xs k n (objTo xs n) (dAt n) r (min x k)
theorem Tv.step {xs : List (BitVec 8)} {k n : Nat} {r r2 : Rd} {x : Nat} (h : Tv xs k n r x) (hx : x < n) {frm : Int} {hd : Hdr} {dt : List (BitVec 8)} (hf : frm = (n : Int) + 1 - ((dAt n x : Nat) : Int)) (hhd : hd = hdM xs k n (dAt n x)) (hdt : dt = rowAt (enc xs k n) (dAt n x)) (e : r2 = gotR r frm hd dt true) : Tv xs k n r2 (x + 1) := by
 subst e hf hhd hdt
 have ho := h.ov
 by_cases hk : x < k
 · rw [Nat.min_eq_left (by omega)] at ho
   have hlt : dAt n x < n := by unfold dAt; omega
   refine ⟨?_⟩
   rw [Nat.min_eq_left (by omega)]
   refine ho.step hk hlt (fun j hj => by unfold dAt; omega) ?_ ?_
   · unfold hitR
     rw [ho.ob]
     show (decide _ && decide ((toL n n)[dAt n x]? = some _)) = true
     rw [toL_get hlt]
     simp [hdM, objTo, objOf]
   · unfold headR
     rw [ho.ob, ho.of.kk, ho.of.nn]; rfl
 · rw [Nat.min_eq_right (by omega)] at ho
   refine ⟨?_⟩
   rw [Nat.min_eq_right (by omega), gotR_shut]
   · exact ho
   · unfold waitsR
     rw [ho.dn, if_pos (Nat.le_refl _)]
     simp
theorem tgood {xs : List (BitVec 8)} {k n z : Nat} {r : Rd} {frm : Int} {hd : Hdr} (h : hd.id.index = (z : Int)) {dt : List (BitVec 8)} (hdt : dt = rowAt (enc xs k n) z) : ∀ i : Nat, hitR r frm hd i = true → goodR r i hd dt true → dt = rowAt (enc xs k n) i := fun i hi _ => by
 have h1 := hitR_index hi
 rw [h] at h1
 obtain rfl : z = i := Int.ofNat.inj h1
 exact hdt
theorem tAt_inj {s0 n x : Nat} (h0 : s0 < n) (hx : x < n) : ∀ i j, i < j → j ≤ x → tAt s0 n i ≠ tAt s0 n j := fun i j hij hj => tAt_ne h0 (by omega) i hij
theorem moves_v {k i n L : Nat} (hk : i < k) (hn : 1 ≤ n) (h : L = if i + 1 = k then n else 0) : decide (((L : Nat) : Int) > 0) = (((i : Nat) : Int) == (k : Int) - 1) := by
 subst h
 by_cases h1 : i + 1 = k
 · rw [if_pos h1, beq_iff_eq.2 (show ((i : Nat) : Int) = (k : Int) - 1 by omega)]
   exact decide_eq_true (by omega)
 · rw [if_neg h1, beq_eq_false_iff_ne.2 (show ((i : Nat) : Int) ≠ (k : Int) - 1 by omega)]
   rfl
theorem moves_w {e : Int} {y n : Nat} (h : e = if y + 1 = n then 1 else 0) : (e == 1) = (((y : Nat) : Int) == (n : Int) - 1) := by
 rw [h]
 by_cases h1 : y + 1 = n
 · rw [if_pos h1, beq_iff_eq.2 (show ((y : Nat) : Int) = (n : Int) - 1 by omega)]; rfl
 · rw [if_neg h1, beq_eq_false_iff_ne.2 (show ((y : Nat) : Int) ≠ (n : Int) - 1 by omega)]; rfl
theorem moves_l {xs : List (BitVec 8)} {k n i : Nat} {L : List Msg} (hkn : k ≤ n) (h1 : i + 1 < k → L = []) (h2 : i + 1 = k → L = msgsOf (mW xs k n)) (hi : i < k) : L.length = if i + 1 = k then n else 0 := by
 by_cases h : i + 1 = k
 · rw [h2 h, if_pos h, mmsgs_len hkn]
 · rw [h1 (by omega), if_neg h]; rfl
theorem moves_bad {S : Nat → Prop} {w : World} {xs : List (BitVec 8)} {a : Option Addr} {c : Nat} (h : SB.rep S w [.slice a xs.length c] xs) (k n fi la : Int) (hb : ¬ (1 ≤ k ∧ k ≤ n ∧ n ≤ 12 ∧ xs.length ≤ 2000 ∧ 0 ≤ fi ∧ 0 ≤ la)) :
 Calls Try.prog 16 #[.slice a xs.length c, .I k, .I n, .I fi, .I la] w (Ret fun v w' => Ext w w' ∧ v = .bool true) := by
 refine qS (fn := Try.f16) (n := 258) (σ := [(0, .slice a xs.length c), (1, .I k), (2, .I n), (3, .I fi), (4, .I la)]) Try.func16 ?_
 have H := Hp.startF (w := w) (S := S) (G := [Rp SB [.slice a xs.length c] xs]) (.rp h .nil)
 refine qR 4 [.c [1, 0, 0], .c [1, 0, 1], .c [2]] [(0, .slice a xs.length c), (1, .I k), (2, .I n), (3, .I fi), (4, .I la)] ?_
 refine WK.join (fun b_ : Bool => b_ = decide (k < 1 ∨ k > n ∨ n > 12 ∨ xs.length > 2000 ∨ fi < 0 ∨ la < 0)) (fun b_ => [(0, .slice a xs.length c), (1, .I k), (2, .I n), (3, .I fi), (4, .I la), (59, .bool b_)]) [Cq Try.prog 16 [1, 0, 1], Cq Try.prog 16 [2]] (fun hJ1 => ?_) (fun bj2 hbj3 => ?_)
 ·
  refine qG (sq 0 24) ?_
  refine qP 3 (sq 3 24) [(0, .slice a xs.length c), (1, .I k), (2, .I n), (3, .I fi), (4, .I la), (38, .bool (decide ((k : Int) < 1)))] ?_
  refine tD (fun b_ => [(0, .slice a xs.length c), (1, .I k), (2, .I n), (3, .I fi), (4, .I la), (38, .bool b_)]) ((k : Int) < 1) (fun h4 => ?_) (fun h4 => ?_)
  ·
   refine qF 21 [(0, .slice a xs.length c), (1, .I k), (2, .I n), (3, .I fi), (4, .I la), (59, .bool true)] ?_
   exact hJ1 true ((decide_eq_true (by omega)).symm)
  ·
   refine qP 5 (sq 8 24) [(0, .slice a xs.length c), (1, .I k), (2, .I n), (3, .I fi), (4, .I la), (43, .bool (decide ((k : Int) > n)))] ?_
   refine tD (fun b_ => [(0, .slice a xs.length c), (1, .I k), (2, .I n), (3, .I fi), (4, .I la), (43, .bool b_)]) ((k : Int) > n) (fun h5 => ?_) (fun h5 => ?_)
   ·
    refine qF 16 [(0, .slice a xs.length c), (1, .I k), (2, .I n), (3, .I fi), (4, .I la), (59, .bool true)] ?_
    exact hJ1 true ((decide_eq_true (by omega)).symm)
   ·
    refine qP 4 (sq 12 24) [(0, .slice a xs.length c), (1, .I k), (2, .I n), (3, .I fi), (4, .I la), (47, .bool (decide ((n : Int) > 12)))] ?_
    refine tD (fun b_ => [(0, .slice a xs.length c), (1, .I k), (2, .I n), (3, .I fi), (4, .I la), (47, .bool b_)]) ((n : Int) > 12) (fun h6 => ?_) (fun h6 => ?_)
    ·
     refine qF 12 [(0, .slice a xs.length c), (1, .I k), (2, .I n), (3, .I fi), (4, .I la), (59, .bool true)] ?_
     exact hJ1 true ((decide_eq_true (by omega)).symm)
    ·
     refine qP 5 (sq 17 24) [(0, .slice a xs.length c), (1, .I k), (2, .I n), (3, .I fi), (4, .I la), (52, .bool (decide ((((xs.length : Nat) : Int) : Int) > 2000)))] ?_
     refine tD (fun b_ => [(0, .slice a xs.length c), (1, .I k), (2, .I n), (3, .I fi), (4, .I la), (52, .bool b_)]) ((((xs.length : Nat) : Int) : Int) > 2000) (fun h7 => ?_) (fun h7 => ?_)
     ·
      refine qF 7 [(0, .slice a xs.length c), (1, .I k), (2, .I n), (3, .I fi), (4, .I la), (59, .bool true)] ?_
      exact hJ1 true ((decide_eq_true (by omega)).symm)
     ·
      refine qP 4 (sq 21 24) [(0, .slice a xs.length c), (1, .I k), (2, .I n), (3, .I fi), (4, .I la), (56, .bool (decide ((fi : Int) < 0)))] ?_
      refine tD (fun b_ => [(0, .slice a xs.length c), (1, .I k), (2, .I n), (3, .I fi), (4, .I la), (56, .bool b_)]) ((fi : Int) < 0) (fun h8 => ?_) (fun h8 => ?_)
      ·
       refine qF 3 [(0, .slice a xs.length c), (1, .I k), (2, .I n), (3, .I fi), (4, .I la), (59, .bool true)] ?_
       exact hJ1 true ((decide_eq_true (by omega)).symm)
      ·
       refine qF 3 [(0, .slice a xs.length c), (1, .I k), (2, .I n), (3, .I fi), (4, .I la), (59, .bool (decide ((la : Int) < 0)))] ?_
       exact hJ1 (decide ((la : Int) < 0)) (decide_eq_decide.2 (by constructor <;> intro _ <;> omega))
 ·
  refine qC bj2 (fun h9 => ?_) (fun h9 => ?_)
  ·
   rw [hbj3] at h9
   replace h9 := of_decide_eq_true h9
   refine qR 1 [.c [1, 0, 1, 0, 0], .c [1, 0, 1, 0, 1], .c [2]] [] ?_
   refine qG (sq 0 2) ?_
   refine qK .seq (some 60) (sq 1 2) 51 #[] (heads22_spec (S := fun _ => True)) ?_
   rintro _ w10 hE11 rfl
   have H := H.ext hE11
   refine qF 1 [(10, .bool true)] ?_
   refine qT (.bool true) Try.func16 ?_
   exact ⟨_, rfl, H.done, rfl⟩
  ·
   rw [hbj3] at h9
   replace h9 := of_decide_eq_false h9
   exact absurd (by omega) hb
set_option maxHeartbeats 4000000 in
theorem moves_ok {S : Nat → Prop} {w : World} {xs : List (BitVec 8)} {a : Option Addr} {c : Nat} (h : SB.rep S w [.slice a xs.length c] xs) {k n fi la : Nat} (hk : 1 ≤ k) (hkn : k ≤ n) (hn : n ≤ 12) (hs : xs.length ≤ 2000) :
 Calls Try.prog 16 #[.slice a xs.length c, .I k, .I n, .I fi, .I la] w (Ret fun v w' => Ext w w' ∧ v = .bool true) := by
 obtain ⟨q0, hq0⟩ : ∃ i : Nat, (fi : Int) % (n : Int) = (i : Int) := ⟨fi % n, rfl⟩
 have hl0 : (q0 : Int) < (n : Int) := hq0 ▸ Int.emod_lt_of_pos _ (by omega)
 obtain ⟨q1, hq1⟩ : ∃ i : Nat, (la : Int) % (n : Int) = (i : Int) := ⟨la % n, rfl⟩
 have hl1 : (q1 : Int) < (n : Int) := hq1 ▸ Int.emod_lt_of_pos _ (by omega)
 have hLs := lenOf_le (size := xs.length) (k := k) (by omega)
 refine qS (fn := Try.f16) (n := 258) (σ := [(0, .slice a xs.length c), (1, .I k), (2, .I n), (3, .I fi), (4, .I la)]) Try.func16 ?_
 have H := Hp.startF (w := w) (S := S) (G := [Rp SB [.slice a xs.length c] xs]) (.rp h .nil)
 refine qR 4 [.c [1, 0, 0], .c [1, 0, 1], .c [2]] [(0, .slice a xs.length c), (1, .I k), (2, .I n), (3, .I fi), (4, .I la)] ?_
 refine qG (sq 0 24) ?_
 refine qP 3 (sq 3 24) [(0, .slice a xs.length c), (1, .I k), (2, .I n), (3, .I fi), (4, .I la), (38, .bool (decide (((k : Int) : Int) < 1)))] ?_
 refine tD (fun b_ => [(0, .slice a xs.length c), (1, .I k), (2, .I n), (3, .I fi), (4, .I la), (38, .bool b_)]) (((k : Int) : Int) < 1) (fun h1 => ?_) (fun h1 => ?_)
 ·
  omega
 ·
  refine qP 5 (sq 8 24) [(0, .slice a xs.length c), (1, .I k), (2, .I n), (3, .I fi), (4, .I la), (43, .bool (decide (((k : Int) : Int) > (n : Int))))] ?_
  refine tD (fun b_ => [(0, .slice a xs.length c), (1, .I k), (2, .I n), (3, .I fi), (4, .I la), (43, .bool b_)]) (((k : Int) : Int) > (n : Int)) (fun h2 => ?_) (fun h2 => ?_)
  ·
   omega
  ·
   refine qP 4 (sq 12 24) [(0, .slice a xs.length c), (1, .I k), (2, .I n), (3, .I fi), (4, .I la), (47, .bool (decide (((n : Int) : Int) > 12)))] ?_
   refine tD (fun b_ => [(0, .slice a xs.length c), (1, .I k), (2, .I n), (3, .I fi), (4, .I la), (47, .bool b_)]) (((n : Int) : Int) > 12) (fun h3 => ?_) (fun h3 => ?_)
   ·
    omega
   ·
    refine qP 5 (sq 17 24) [(0, .slice a xs.length c), (1, .I k), (2, .I n), (3, .I fi), (4, .I la), (52, .bool (decide ((((xs.length : Nat) : Int) : Int) > 2000)))] ?_
    refine tD (fun b_ => [(0, .slice a xs.length c), (1, .I k), (2, .I n), (3, .I fi), (4, .I la), (52, .bool b_)]) ((((xs.length : Nat) : Int) : Int) > 2000) (fun h4 => ?_) (fun h4 => ?_)
    ·
     omega
    ·
     refine qP 4 (sq 21 24) [(0, .slice a xs.length c), (1, .I k), (2, .I n), (3, .I fi), (4, .I la), (56, .bool (decide (((fi : Int) : Int) < 0)))] ?_
     refine tD (fun b_ => [(0, .slice a xs.length c), (1, .I k), (2, .I n), (3, .I fi), (4, .I la), (56, .bool b_)]) (((fi : Int) : Int) < 0) (fun h5 => ?_) (fun h5 => ?_)
     ·
      omega
     ·
      refine qF 3 [(0, .slice a xs.length c), (1, .I k), (2, .I n), (3, .I fi), (4, .I la), (59, .bool (decide (((la : Int) : Int) < 0)))] ?_
      refine qD (((la : Int) : Int) < 0) (fun h6 => ?_) (fun h6 => ?_)
      ·
       omega
      ·
       refine qR 2 [.c [2, 0], .c [3]] [(0, .slice a xs.length c), (1, .I k), (2, .I n), (3, .I fi), (4, .I la)] ?_
       refine qG (sq 0 12) ?_
       refine qP 3 (sq 3 12) [(0, .slice a xs.length c), (1, .I k), (2, .I n), (3, .I fi), (4, .I la), (62, .slice a xs.length c), (63, .I k), (64, .I n)] ?_
       refine qK .seq (some 65) (sq 4 12) 52 #[.slice a xs.length c, .I k, .I n] (object22_ok (S := Av S w [] (idsOf [] [])) (xs := xs) (H.rp 0 rfl) (k := k) (n := n) (by omega) (by omega) (by omega) (by omega)) ?_
       rintro _ w7 hE11 ⟨cs8, a9, c10, rfl, hr12, hr13⟩
       have H0s := H
       obtain ⟨a6q14, k6q14, rfl, hf15, hf16, hf17, hf18, hf19, hf20⟩ := obj_open hr12
       have H := H.addN hE11 (F := Rp (Shape.slice chkS) [.slice a9 (chksOf xs k n).length c10] (chksOf xs k n)) hr13
       have H := H.add (F := Rp Li [.slice a6q14 ((objOf xs n).nodes.length) k6q14] ((objOf xs n).nodes)) ((H0s.addN hE11 (F := Rp Li [.slice a6q14 ((objOf xs n).nodes.length) k6q14] ((objOf xs n).nodes)) hf20).rp 0 rfl)
       refine qP 4 (sq 8 12) [(0, .slice a xs.length c), (1, .I k), (2, .I n), (3, .I fi), (4, .I la), (66, .agg (objV (objOf xs n) a6q14 k6q14).toArray), (67, .slice a9 (chksOf xs k n).length c10), (68, .bool true)] ?_
       refine qB .seq 11 (sq 9 12) #[.string (⟨#[]⟩), .int .u64 0, .I 0, .int .u32 0, .I 0, .int .u64 0, .slice none 0 0] 102 H ?_
       intro b21 w22 H
       refine qW 102 b21 0 (sq 10 12) (.agg (objV (objOf xs n) a6q14 k6q14).toArray) [(b21, .cells (objV (objOf xs n) a6q14 k6q14).toArray 102 (0, 0))] H 0 rfl rfl ?_
       intro w23 H
       refine qF 2 [(0, .slice a xs.length c), (1, .I k), (2, .I n), (3, .I fi), (4, .I la), (11, .P b21 0), (12, .slice a9 (chksOf xs k n).length c10), (13, .bool true)] ?_
       refine qR 6 [.c [4, 0, 1, 0], .b 0, .c [5]] [(0, .slice a xs.length c), (1, .I k), (2, .I n), (3, .I fi), (4, .I la), (11, .P b21 0), (12, .slice a9 (chksOf xs k n).length c10), (13, .bool true), (14, .slice none 0 0), (15, .I 0)] ?_
       have H := H.ownNil Si 3
       have H : Hp w S [] [(b21, .cells (objV (objOf xs n) a6q14 k6q14).toArray 102 (0, 0))] [⟨Shape.int .i64, 3, .slice none (toL n 0).length 0, toL n 0⟩] [Rp Li [.slice a6q14 ((objOf xs n).nodes.length) k6q14] ((objOf xs n).nodes), Rp (Shape.slice chkS) [.slice a9 (chksOf xs k n).length c10] (chksOf xs k n), Rp SB [.slice a xs.length c] xs] w23 := H
       refine WK.loop (α := Nat × Option Addr × Nat) (b := cd Try.prog 16 [4, 0, 1, 0, 0]) (by as_aux_lemma => kernel_rfl) (fun st_ => match st_ with | (q, na, nc) => [(0, .slice a xs.length c), (1, .I k), (2, .I n), (3, .I fi), (4, .I la), (11, .P b21 0), (12, .slice a9 (chksOf xs k n).length c10), (13, .bool true), (14, .slice na (toL n q).length nc), (15, .I q)]) (fun st_ w' => match st_ with | (q, na, nc) => Hp w S [] [(b21, .cells (objV (objOf xs n) a6q14 k6q14).toArray 102 (0, 0))] [⟨Shape.int .i64, 3, .slice na (toL n q).length nc, toL n q⟩] [Rp Li [.slice a6q14 ((objOf xs n).nodes.length) k6q14] ((objOf xs n).nodes), Rp (Shape.slice chkS) [.slice a9 (chksOf xs k n).length c10] (chksOf xs k n), Rp SB [.slice a xs.length c] xs] w' ∧ q ≤ n) (fun st_ => match st_ with | (q, na, nc) => n - q) (0, none, 0) ⟨H, by omega⟩ (rfl) ?_
       rintro ⟨q, na, nc⟩ w25 ⟨H, hinv0⟩ hback24
       refine qR 3 [.c [4, 0, 1, 0, 0, 0, 1], .c [4, 0, 1, 0, 0, 1], .l [4, 0, 1, 0, 0], .b 0, .c [5]] [(0, .slice a xs.length c), (1, .I k), (2, .I n), (3, .I fi), (4, .I la), (11, .P b21 0), (12, .slice a9 (chksOf xs k n).length c10), (13, .bool true), (14, .slice na (toL n q).length nc), (15, .I q), (71, .bool (decide (((q : Int) : Int) < (n : Int))))] ?_
       refine qD (((q : Int) : Int) < (n : Int)) (fun h26 => ?_) (fun h26 => ?_)
       ·
        refine qR 3 [.c [4, 0, 1, 0, 0, 1, 0, 0], .b 1, .c [4, 0, 1, 0, 0, 2], .l [4, 0, 1, 0, 0], .b 0, .c [5]] [(0, .slice a xs.length c), (1, .I k), (2, .I n), (3, .I fi), (4, .I la), (11, .P b21 0), (12, .slice a9 (chksOf xs k n).length c10), (13, .bool true), (14, .slice na (toL n q).length nc), (15, .I q)] ?_
        refine qG (sq 0 8) ?_
        refine qP 2 (sq 2 8) [(0, .slice a xs.length c), (1, .I k), (2, .I n), (3, .I fi), (4, .I la), (11, .P b21 0), (12, .slice a9 (chksOf xs k n).length c10), (13, .bool true), (14, .slice na (toL n q).length nc), (15, .I q), (74, .slice na (toL n q).length nc), (75, .I n)] ?_
        refine qI .seq 76 (sq 3 8) ((n : Int) + 1) ?_
        refine qP 1 (sq 4 8) [(0, .slice a xs.length c), (1, .I k), (2, .I n), (3, .I fi), (4, .I la), (11, .P b21 0), (12, .slice a9 (chksOf xs k n).length c10), (13, .bool true), (14, .slice na (toL n q).length nc), (15, .I q), (74, .slice na (toL n q).length nc), (76, .I ((n : Int) + 1)), (77, .I q)] ?_
        refine qI .seq 78 (sq 5 8) (((n : Int) + 1) - (q : Int)) ?_
        refine RW.new (κ := .seq) (d := some 79) (r := (sq 6 8)) (o := .cells #[.I (((n : Int) + 1) - (q : Int))] 3 (0, 0)) (v := fun b => .slice (some ⟨b, 0, none⟩) 1 1) (fun b => by as_aux_lemma => kernel_rfl) (nofun) H ?_
        intro b27 w28 H
        have H := H.freeze 0 rfl Si ([((n : Int) + 1) - (q : Int)] : List Int) 1 (by simp [maxLen]) (by first | exact Nat.le_refl _ | simp) (EsP.cons (c := [.I (((n : Int) + 1) - (q : Int))]) i64a EsP.nil)
        have H : Hp w S [] [(b21, .cells (objV (objOf xs n) a6q14 k6q14).toArray 102 (0, 0))] [⟨Shape.int .i64, 3, .slice na (toL n q).length nc, toL n q⟩] [Rp Li [.slice (some ⟨b27, 0, none⟩) 1 1] ([((n : Int) + 1) - (q : Int)] : List Int), Rp Li [.slice a6q14 ((objOf xs n).nodes.length) k6q14] ((objOf xs n).nodes), Rp (Shape.slice chkS) [.slice a9 (chksOf xs k n).length c10] (chksOf xs k n), Rp SB [.slice a xs.length c] xs] _ := H
        refine RW.appendW (d := some 80) (r := (sq 7 8)) (T := 25) (ty := 25) (e := 3) (m := 1) (by_ := 8) (v := .slice na (toL n q).length nc) (a2 := (some ⟨b27, 0, none⟩)) (l2 := 1) (c2 := 1) (zs := toL n (q + 1)) (by as_aux_lemma => kernel_rfl) (by as_aux_lemma => kernel_rfl) rfl H 0 rfl 0 rfl (toL_snoc n q) (by rw [toL_len]; omega) ?_
        intro a29 c30 w32 H hc31
        have H : Hp w S [] [(b21, .cells (objV (objOf xs n) a6q14 k6q14).toArray 102 (0, 0))] [⟨Shape.int .i64, 3, .slice a29 ((toL n (q + 1)).length) c30, toL n (q + 1)⟩] [Rp Li [.slice (some ⟨b27, 0, none⟩) 1 1] ([((n : Int) + 1) - (q : Int)] : List Int), Rp Li [.slice a6q14 ((objOf xs n).nodes.length) k6q14] ((objOf xs n).nodes), Rp (Shape.slice chkS) [.slice a9 (chksOf xs k n).length c10] (chksOf xs k n), Rp SB [.slice a xs.length c] xs] _ := H
        refine qF 1 [(0, .slice a xs.length c), (1, .I k), (2, .I n), (3, .I fi), (4, .I la), (11, .P b21 0), (12, .slice a9 (chksOf xs k n).length c10), (13, .bool true), (14, .slice a29 ((toL n (q + 1)).length) c30), (15, .I q)] ?_
        refine qR 1 [.c [4, 0, 1, 0, 0, 2], .l [4, 0, 1, 0, 0], .b 0, .c [5]] [(0, .slice a xs.length c), (1, .I k), (2, .I n), (3, .I fi), (4, .I la), (11, .P b21 0), (12, .slice a9 (chksOf xs k n).length c10), (13, .bool true), (14, .slice a29 ((toL n (q + 1)).length) c30), (15, .I q)] ?_
        refine qG (sq 0 3) ?_
        refine qP 1 (sq 1 3) [(0, .slice a xs.length c), (1, .I k), (2, .I n), (3, .I fi), (4, .I la), (11, .P b21 0), (12, .slice a9 (chksOf xs k n).length c10), (13, .bool true), (14, .slice a29 ((toL n (q + 1)).length) c30), (15, .I q), (72, .I q)] ?_
        refine qI .seq 73 (sq 2 3) ((q : Int) + 1) ?_
        refine qF 1 [(0, .slice a xs.length c), (1, .I k), (2, .I n), (3, .I fi), (4, .I la), (11, .P b21 0), (12, .slice a9 (chksOf xs k n).length c10), (13, .bool true), (14, .slice a29 ((toL n (q + 1)).length) c30), (15, .I ((q : Int) + 1))] ?_
        have H := H.pick [1, 2, 3] rfl
        exact WK.back (hback24 (q + 1, a29, c30) _ ⟨H, by omega⟩ (by first | omega | (simp only []; omega))) (by as_aux_lemma => kernel_rfl)
       ·
        have hqn : q = n := by omega
        rw [hqn] at H ⊢
        refine qR 2 [.c [5, 0], .c [6]] [(0, .slice a xs.length c), (1, .I k), (2, .I n), (3, .I fi), (4, .I la), (11, .P b21 0), (12, .slice a9 (chksOf xs k n).length c10), (13, .bool true), (14, .slice na (toL n n).length nc)] ?_
        refine qG (sq 0 13) ?_
        refine qL .seq 82 (sq 1 13) 102 b21 0 0 (.agg (objV (objOf xs n) a6q14 k6q14).toArray) (H.cells 0 rfl) ?_
        refine qP 3 (sq 4 13) [(0, .slice a xs.length c), (1, .I k), (2, .I n), (3, .I fi), (4, .I la), (11, .P b21 0), (12, .slice a9 (chksOf xs k n).length c10), (13, .bool true), (14, .slice na (toL n n).length nc), (82, .agg (objV (objOf xs n) a6q14 k6q14).toArray), (83, .I k), (84, .I n), (85, .slice na (toL n n).length nc)] ?_
        have H : Hp w S [] [(b21, .cells (objV (objOf xs n) a6q14 k6q14).toArray 102 (0, 0))] [] [Rp Li [.slice na (toL n n).length nc] (toL n n), Rp Li [.slice a6q14 ((objOf xs n).nodes.length) k6q14] ((objOf xs n).nodes), Rp (Shape.slice chkS) [.slice a9 (chksOf xs k n).length c10] (chksOf xs k n), Rp SB [.slice a xs.length c] xs] _ := H.freezeW 0 rfl
        refine qK .seq (some 86) (sq 5 13) 53 #[.agg (objV (objOf xs n) a6q14 k6q14).toArray, .I k, .I n, .slice na (toL n n).length nc, .int .u64 3, .I 100] (mbegin_ok (O := (objOf xs n)) (obj_mk (y0 := (objOf xs n).key) (y1 := (objOf xs n).version) (y2 := (objOf xs n).size) (y3 := (objOf xs n).sum) (y4 := (objOf xs n).group) (y5 := (objOf xs n).epoch) (y6 := (objOf xs n).nodes) ⟨rfl, by first | assumption | (simp [maxLen]; done) | decide⟩ u64a i64a Shape.bv_mk i64a u64a (H.rp 1 rfl)) (k : Int) (n : Int) 3 100 (to := toL n n) (H.rp 0 rfl) (by omega) (okB_begin hk hkn (by omega) (by omega)) (by rw [toL_len])) ?_
        rintro _ w33 hE37 ⟨cs34, a35, c36, rfl, hr38, hr39⟩
        have H0s := H
        obtain ⟨s40, hs41⟩ : ∃ s_ : Shf, s_ = mbegR (objOf xs n) (k : Int) (n : Int) (toL n n) 3 100 := ⟨_, rfl⟩
        rw [← hs41] at hr38
        obtain ⟨a006o42, k006o42, a03o42, k03o42, a04o42, k04o42, a1o42, k1o42, a33o42, k33o42, a34o42, k34o42, a35o42, k35o42, a36o42, k36o42, rfl, hBo42, H⟩ := addShf H hE37 hr38
        unfold shB wrB rdB at hBo42
        have hso42 := hBo42.1.1
        have hso42w := hBo42.2.2.1.1
        have H := H.add (F := Rp (Shape.slice msgS) [.slice a35 ((asksR (beginR (objOf xs n) (k : Int) (n : Int) 100)).length) c36] (asksR (beginR (objOf xs n) (k : Int) (n : Int) 100))) ((H0s.addN hE37 (F := Rp (Shape.slice msgS) [.slice a35 ((asksR (beginR (objOf xs n) (k : Int) (n : Int) 100)).length) c36] (asksR (beginR (objOf xs n) (k : Int) (n : Int) 100))) hr39).rp 0 rfl)
        refine qP 4 (sq 9 13) [(0, .slice a xs.length c), (1, .I k), (2, .I n), (3, .I fi), (4, .I la), (11, .P b21 0), (12, .slice a9 (chksOf xs k n).length c10), (13, .bool true), (14, .slice na (toL n n).length nc), (87, .agg (shfV s40 a006o42 k006o42 a03o42 k03o42 a04o42 k04o42 a1o42 k1o42 a33o42 k33o42 a34o42 k34o42 a35o42 k35o42 a36o42 k36o42).toArray), (88, .slice a35 ((asksR (beginR (objOf xs n) (k : Int) (n : Int) 100)).length) c36), (89, .I 0)] ?_
        refine qB .seq 16 (sq 10 13) ((shfZ).toArray) 118 H ?_
        intro b43 w44 H
        refine qW 118 b43 0 (sq 11 13) (.agg (shfV s40 a006o42 k006o42 a03o42 k03o42 a04o42 k04o42 a1o42 k1o42 a33o42 k33o42 a34o42 k34o42 a35o42 k35o42 a36o42 k36o42).toArray) [(b43, .cells (shfV s40 a006o42 k006o42 a03o42 k03o42 a04o42 k04o42 a1o42 k1o42 a33o42 k33o42 a34o42 k34o42 a35o42 k35o42 a36o42 k36o42).toArray 118 (0, 0)), (b21, .cells (objV (objOf xs n) a6q14 k6q14).toArray 102 (0, 0))] H 0 rfl rfl ?_
        intro w45 H
        refine qF 2 [(0, .slice a xs.length c), (1, .I k), (2, .I n), (3, .I fi), (4, .I la), (11, .P b21 0), (12, .slice a9 (chksOf xs k n).length c10), (13, .bool true), (14, .slice na (toL n n).length nc), (16, .P b43 0), (17, .slice a35 ((asksR (beginR (objOf xs n) (k : Int) (n : Int) 100)).length) c36), (18, .I 0)] ?_
        refine qR 3 [.c [6, 0, 1], .c [7]] [(0, .slice a xs.length c), (1, .I k), (2, .I n), (3, .I fi), (4, .I la), (11, .P b21 0), (12, .slice a9 (chksOf xs k n).length c10), (14, .slice na (toL n n).length nc), (16, .P b43 0), (101, .bool ((((asksR (beginR (objOf xs n) (k : Int) (n : Int) 100)).length : Nat) : Int) != (n : Int)))] ?_
        refine qN (((asksR (beginR (objOf xs n) (k : Int) (n : Int) 100)).length : Nat) : Int) (n : Int) (fun h46 => ?_) (fun h46 => ?_)
        ·
         exact absurd (by rw [masks_len]) h46
        ·
         refine qR 7 [.c [8, 0, 1, 0], .b 2, .c [9]] [(0, .slice a xs.length c), (1, .I k), (2, .I n), (3, .I fi), (4, .I la), (11, .P b21 0), (12, .slice a9 (chksOf xs k n).length c10), (14, .slice na (toL n n).length nc), (16, .P b43 0), (19, .slice none 0 0), (20, .I 0)] ?_
         have H := H.addRp (Shape.slice msgS) [.slice none 0 0] [] Shape.slice_nil
         have H : Hp w S [] [(b43, .cells (shfV s40 a006o42 k006o42 a03o42 k03o42 a04o42 k04o42 a1o42 k1o42 a33o42 k33o42 a34o42 k34o42 a35o42 k35o42 a36o42 k36o42).toArray 118 (0, 0)), (b21, .cells (objV (objOf xs n) a6q14 k6q14).toArray 102 (0, 0))] [] [Rp (Shape.slice msgS) [.slice none ([] : List Msg).length 0] ([] : List Msg), Rp (Shape.slice msgS) [.slice a35 ((asksR (beginR (objOf xs n) (k : Int) (n : Int) 100)).length) c36] (asksR (beginR (objOf xs n) (k : Int) (n : Int) 100)), Rp Li [.slice a006o42 s40.read.object.nodes.length k006o42] s40.read.object.nodes, Rp (Shape.slice pcS) [.slice a03o42 s40.read.pieces.length k03o42] s40.read.pieces, Rp Li [.slice a04o42 s40.read.bad.length k04o42] s40.read.bad, Rp Li [.slice a1o42 s40.to.length k1o42] s40.to, Rp (Shape.slice hdrS) [.slice a33o42 s40.write.heads.length k33o42] s40.write.heads, Rp (Shape.slice SB) [.slice a34o42 s40.write.chunks.length k34o42] s40.write.chunks, Rp Li [.slice a35o42 s40.write.nodes.length k35o42] s40.write.nodes, Rp Li [.slice a36o42 s40.write.acks.length k36o42] s40.write.acks, Rp Li [.slice na (toL n n).length nc] (toL n n), Rp Li [.slice a6q14 ((objOf xs n).nodes.length) k6q14] ((objOf xs n).nodes), Rp (Shape.slice chkS) [.slice a9 (chksOf xs k n).length c10] (chksOf xs k n), Rp SB [.slice a xs.length c] xs] w45 := H
         have H := H.pick [0, 2, 3, 4, 5, 6, 7, 8, 9, 10, 12, 13] rfl
         refine WK.loop (α := Nat × Shf × List Msg × Option Addr × Nat × Option Addr × Nat × Option Addr × Nat × Option Addr × Nat × Option Addr × Nat × Option Addr × Nat × Option Addr × Nat × Option Addr × Nat × Option Addr × Nat) (b := cd Try.prog 16 [8, 0, 1, 0, 0]) (by as_aux_lemma => kernel_rfl) (fun st_ => match st_ with | (i, s, pu, a006q, k006q, a03q, k03q, a04q, k04q, a1q, k1q, a33q, k33q, a34q, k34q, a35q, k35q, a36q, k36q, pa, pc) => [(0, .slice a xs.length c), (1, .I k), (2, .I n), (3, .I fi), (4, .I la), (11, .P b21 0), (12, .slice a9 (chksOf xs k n).length c10), (14, .slice na (toL n n).length nc), (16, .P b43 0), (19, .slice pa pu.length pc), (20, .I i)]) (fun st_ w' => match st_ with | (i, s, pu, a006q, k006q, a03q, k03q, a04q, k04q, a1q, k1q, a33q, k33q, a34q, k34q, a35q, k35q, a36q, k36q, pa, pc) => Hp w S [] [(b43, .cells (shfV s a006q k006q a03q k03q a04q k04q a1q k1q a33q k33q a34q k34q a35q k35q a36q k36q).toArray 118 (0, 0)), (b21, .cells (objV (objOf xs n) a6q14 k6q14).toArray 102 (0, 0))] [] [Rp (Shape.slice msgS) [.slice pa pu.length pc] pu, Rp Li [.slice a006q s.read.object.nodes.length k006q] s.read.object.nodes, Rp (Shape.slice pcS) [.slice a03q s.read.pieces.length k03q] s.read.pieces, Rp Li [.slice a04q s.read.bad.length k04q] s.read.bad, Rp Li [.slice a1q s.to.length k1q] s.to, Rp (Shape.slice hdrS) [.slice a33q s.write.heads.length k33q] s.write.heads, Rp (Shape.slice SB) [.slice a34q s.write.chunks.length k34q] s.write.chunks, Rp Li [.slice a35q s.write.nodes.length k35q] s.write.nodes, Rp Li [.slice a36q s.write.acks.length k36q] s.write.acks, Rp Li [.slice na (toL n n).length nc] (toL n n), Rp (Shape.slice chkS) [.slice a9 (chksOf xs k n).length c10] (chksOf xs k n), Rp SB [.slice a xs.length c] xs] w' ∧ i ≤ k ∧ shB s ∧ (i < k → Rv xs k n (tAt q0 n) s i ∧ pu = []) ∧ (i = k → Qv xs k n (tAt q1 n) s 0 ∧ pu = msgsOf (mW xs k n))) (fun st_ => match st_ with | (i, s, pu, a006q, k006q, a03q, k03q, a04q, k04q, a1q, k1q, a33q, k33q, a34q, k34q, a35q, k35q, a36q, k36q, pa, pc) => k - i) (0, s40, ([] : List Msg), a006o42, k006o42, a03o42, k03o42, a04o42, k04o42, a1o42, k1o42, a33o42, k33o42, a34o42, k34o42, a35o42, k35o42, a36o42, k36o42, none, 0) ⟨H, by omega, by unfold shB wrB rdB; omega, fun _ => ⟨hs41 ▸ Rv.begin _ hk hkn (by omega) (by omega), rfl⟩, fun h => absurd h (by omega)⟩ (rfl) ?_
         rintro ⟨i, s, pu, a006q, k006q, a03q, k03q, a04q, k04q, a1q, k1q, a33q, k33q, a34q, k34q, a35q, k35q, a36q, k36q, pa, pc⟩ w48 ⟨H, hinv1⟩ hback47
         obtain ⟨hi1, hBs, hrd1, hrd2⟩ := hinv1
         have hBq := hBs
         unfold shB wrB rdB at hBq
         have hsq := hBq.1.1
         have hsqw := hBq.2.2.1.1
         refine qR 3 [.c [8, 0, 1, 0, 0, 0, 1], .c [8, 0, 1, 0, 0, 1], .l [8, 0, 1, 0, 0], .b 2, .c [9]] [(0, .slice a xs.length c), (1, .I k), (2, .I n), (3, .I fi), (4, .I la), (11, .P b21 0), (12, .slice a9 (chksOf xs k n).length c10), (14, .slice na (toL n n).length nc), (16, .P b43 0), (19, .slice pa pu.length pc), (20, .I i), (104, .bool (decide (((i : Int) : Int) < (k : Int))))] ?_
         refine qD (((i : Int) : Int) < (k : Int)) (fun h49 => ?_) (fun h49 => ?_)
         ·
          have hrv := (hrd1 (by omega)).1
          have htl : tAt q0 n i < n := tAt_lt (by omega)
          have htn := tAt_ne (s0 := q0) (n := n) (x := i) (by omega) (by omega)
          have hrl := row_len (xs := xs) hkn htl
          refine qR 4 [.c [8, 0, 1, 0, 0, 1, 0, 0, 0], .c [8, 0, 1, 0, 0, 1, 0, 0, 1], .b 3, .c [8, 0, 1, 0, 0, 2], .l [8, 0, 1, 0, 0], .b 2, .c [9]] [(0, .slice a xs.length c), (1, .I k), (2, .I n), (3, .I fi), (4, .I la), (11, .P b21 0), (12, .slice a9 (chksOf xs k n).length c10), (14, .slice na (toL n n).length nc), (16, .P b43 0), (20, .I i)] ?_
          refine qG (sq 0 8) ?_
          refine qP 2 (sq 2 8) [(0, .slice a xs.length c), (1, .I k), (2, .I n), (3, .I fi), (4, .I la), (11, .P b21 0), (12, .slice a9 (chksOf xs k n).length c10), (14, .slice na (toL n n).length nc), (16, .P b43 0), (20, .I i), (107, .I fi), (108, .I n)] ?_
          refine RW.readS (κ := .seq) (d := some 109) (r := (sq 3 8)) (s := semV (Op.intDiv .rem .i64 (fi : Int) (n : Int))) (v := .I q0) (by as_aux_lemma => kernel_rfl) (fun w' _ => semV_run (rem_nat (r := q0) (by omega) (by omega) (hq0))) ?_
          refine qP 1 (sq 4 8) [(0, .slice a xs.length c), (1, .I k), (2, .I n), (3, .I fi), (4, .I la), (11, .P b21 0), (12, .slice a9 (chksOf xs k n).length c10), (14, .slice na (toL n n).length nc), (16, .P b43 0), (20, .I i), (109, .I q0), (110, .I i)] ?_
          refine qI .seq 111 (sq 5 8) ((q0 : Int) + (i : Int)) ?_
          refine qP 1 (sq 6 8) [(0, .slice a xs.length c), (1, .I k), (2, .I n), (3, .I fi), (4, .I la), (11, .P b21 0), (12, .slice a9 (chksOf xs k n).length c10), (14, .slice na (toL n n).length nc), (16, .P b43 0), (20, .I i), (111, .I ((q0 : Int) + (i : Int))), (112, .I n)] ?_
          refine RW.readS (κ := .seq) (d := some 113) (r := (sq 7 8)) (s := semV (Op.intDiv .rem .i64 ((q0 : Int) + (i : Int)) (n : Int))) (v := .I ((tAt q0 n i : Nat) : Int)) (by as_aux_lemma => kernel_rfl) (fun w' _ => semV_run (rem_nat (r := tAt q0 n i) (by omega) (by omega) (rfl))) ?_
          refine qF 1 [(0, .slice a xs.length c), (1, .I k), (2, .I n), (3, .I fi), (4, .I la), (11, .P b21 0), (12, .slice a9 (chksOf xs k n).length c10), (14, .slice na (toL n n).length nc), (16, .P b43 0), (20, .I i), (21, .I ((tAt q0 n i : Nat) : Int))] ?_
          refine qR 1 [.c [8, 0, 1, 0, 0, 1, 0, 0, 1, 0], .c [8, 0, 1, 0, 0, 1, 0, 0, 2], .b 3, .c [8, 0, 1, 0, 0, 2], .l [8, 0, 1, 0, 0], .b 2, .c [9]] [(0, .slice a xs.length c), (1, .I k), (2, .I n), (3, .I fi), (4, .I la), (11, .P b21 0), (12, .slice a9 (chksOf xs k n).length c10), (14, .slice na (toL n n).length nc), (16, .P b43 0), (20, .I i), (21, .I ((tAt q0 n i : Nat) : Int))] ?_
          refine WK.joinV (α := Nat × Shf × Option Addr × Nat × Option Addr × Nat × Option Addr × Nat × Option Addr × Nat × Option Addr × Nat × Option Addr × Nat × Option Addr × Nat × Option Addr × Nat × List Msg × Option Addr × Nat) (fun x_ w_ => match x_ with | (bj, sj, a006j, k006j, a03j, k03j, a04j, k04j, a1j, k1j, a33j, k33j, a34j, k34j, a35j, k35j, a36j, k36j, Lj, maj, mcj) => Hp w S [] [(bj, .cells (shfV sj a006j k006j a03j k03j a04j k04j a1j k1j a33j k33j a34j k34j a35j k35j a36j k36j).toArray 118 (0, 0)), (b43, .cells (shfV s a006q k006q a03q k03q a04q k04q a1q k1q a33q k33q a34q k34q a35q k35q a36q k36q).toArray 118 (0, 0)), (b21, .cells (objV (objOf xs n) a6q14 k6q14).toArray 102 (0, 0))] [] [Rp (Shape.slice msgS) [.slice maj Lj.length mcj] Lj, Rp Li [.slice a006j sj.read.object.nodes.length k006j] sj.read.object.nodes, Rp (Shape.slice pcS) [.slice a03j sj.read.pieces.length k03j] sj.read.pieces, Rp Li [.slice a04j sj.read.bad.length k04j] sj.read.bad, Rp Li [.slice a1j sj.to.length k1j] sj.to, Rp (Shape.slice hdrS) [.slice a33j sj.write.heads.length k33j] sj.write.heads, Rp (Shape.slice SB) [.slice a34j sj.write.chunks.length k34j] sj.write.chunks, Rp Li [.slice a35j sj.write.nodes.length k35j] sj.write.nodes, Rp Li [.slice a36j sj.write.acks.length k36j] sj.write.acks, Rp (Shape.slice msgS) [.slice pa pu.length pc] pu, Rp Li [.slice a006q s.read.object.nodes.length k006q] s.read.object.nodes, Rp (Shape.slice pcS) [.slice a03q s.read.pieces.length k03q] s.read.pieces, Rp Li [.slice a04q s.read.bad.length k04q] s.read.bad, Rp Li [.slice a1q s.to.length k1q] s.to, Rp (Shape.slice hdrS) [.slice a33q s.write.heads.length k33q] s.write.heads, Rp (Shape.slice SB) [.slice a34q s.write.chunks.length k34q] s.write.chunks, Rp Li [.slice a35q s.write.nodes.length k35q] s.write.nodes, Rp Li [.slice a36q s.write.acks.length k36q] s.write.acks, Rp Li [.slice na (toL n n).length nc] (toL n n), Rp (Shape.slice chkS) [.slice a9 (chksOf xs k n).length c10] (chksOf xs k n), Rp SB [.slice a xs.length c] xs] w_ ∧ (sj = mgotR s ((((tAt q0 n i) : Nat) : Int) + 1) (chkAt xs k n (tAt q0 n i)).head (chkAt xs k n (tAt q0 n i)).data true xs k n) ∧ shB sj ∧ Lj = mgotL s ((((tAt q0 n i) : Nat) : Int) + 1) (chkAt xs k n (tAt q0 n i)).head (chkAt xs k n (tAt q0 n i)).data true xs k n) (fun x_ => match x_ with | (bj, sj, a006j, k006j, a03j, k03j, a04j, k04j, a1j, k1j, a33j, k33j, a34j, k34j, a35j, k35j, a36j, k36j, Lj, maj, mcj) => [(0, .slice a xs.length c), (1, .I k), (2, .I n), (3, .I fi), (4, .I la), (11, .P b21 0), (12, .slice a9 (chksOf xs k n).length c10), (14, .slice na (toL n n).length nc), (16, .P b43 0), (20, .I i), (22, .P bj 0), (23, .slice maj Lj.length mcj), (24, .I sj.done)]) [Cq Try.prog 16 [8, 0, 1, 0, 0, 1, 0, 0, 2], .inBlock 3, Cq Try.prog 16 [8, 0, 1, 0, 0, 2], Lq Try.prog 16 [8, 0, 1, 0, 0], .inBlock 2, Cq Try.prog 16 [9]] (fun hJ50 => ?_) ?_
          ·
           refine WK.drawH1 [] (.node (qs [0, 1, 2, 3, 4, 5, 6, 7, 8, 9, 10, 11, 12, 13]) (.cons 14 (.leaf [(15, .qui), (16, .qui), (17, .qui), (18, .qui), (19, .seq), (20, .seq), (21, .qui), (22, .qui)]) (.cons 19 (.leaf [(14, .seq), (15, .qui), (16, .qui), (17, .qui), (18, .qui), (20, .seq), (21, .qui), (22, .qui)]) .nil))) Try_mixed (by as_aux_lemma => kernel_rfl) (by as_aux_lemma => kernel_rfl) ?_
           intro w52 hw53
           have H := H.draw
           rw [← hw53] at H
           clear hw53
           have hS := Chg.refl w52 []
           refine RG.node' (qs [0, 1, 2, 3, 4, 5, 6, 7, 8, 9, 10, 11, 12, 13]) (by as_aux_lemma => kernel_rfl) ?_
           refine qHL 115 (qs [1, 2, 3, 4, 5, 6, 7, 8, 9, 10, 11, 12, 13]) 118 b43 0 0 (.agg (shfV s a006q k006q a03q k03q a04q k04q a1q k1q a33q k33q a34q k34q a35q k35q a36q k36q).toArray) hS (H.cells 0 rfl) (by simp) ?_
           refine qHP hS 1 (qs [2, 3, 4, 5, 6, 7, 8, 9, 10, 11, 12, 13]) [(0, .slice a xs.length c), (1, .I k), (2, .I n), (3, .I fi), (4, .I la), (11, .P b21 0), (12, .slice a9 (chksOf xs k n).length c10), (14, .slice na (toL n n).length nc), (16, .P b43 0), (20, .I i), (21, .I ((tAt q0 n i : Nat) : Int)), (115, .agg (shfV s a006q k006q a03q k03q a04q k04q a1q k1q a33q k33q a34q k34q a35q k35q a36q k36q).toArray), (116, .I ((tAt q0 n i : Nat) : Int))] ?_
           refine RH.pv (d := some 117) (r := (qs [3, 4, 5, 6, 7, 8, 9, 10, 11, 12, 13])) (v := .I (IntKind.i64.wrap (((tAt q0 n i : Nat) : Int) + 1))) (v' := .I (((tAt q0 n i : Nat) : Int) + 1)) (by as_aux_lemma => kernel_rfl) hS (wr_i64 (by omega)) ?_
           refine qHP hS 2 (qs [5, 6, 7, 8, 9, 10, 11, 12, 13]) [(0, .slice a xs.length c), (1, .I k), (2, .I n), (3, .I fi), (4, .I la), (11, .P b21 0), (12, .slice a9 (chksOf xs k n).length c10), (14, .slice na (toL n n).length nc), (16, .P b43 0), (20, .I i), (21, .I ((tAt q0 n i : Nat) : Int)), (115, .agg (shfV s a006q k006q a03q k03q a04q k04q a1q k1q a33q k33q a34q k34q a35q k35q a36q k36q).toArray), (117, .I (((tAt q0 n i : Nat) : Int) + 1)), (118, .slice a9 (chksOf xs k n).length c10), (119, .I ((tAt q0 n i : Nat) : Int))] ?_
           have hx54 : (tAt q0 n i) < (chksOf xs k n).length := by rw [chksOf_len]; exact htl
           refine RH.index (d := some 120) (r := (qs [6, 7, 8, 9, 10, 11, 12, 13])) (T := 103) (e := 92) (ik := .i64) (ix := ((tAt q0 n i : Nat) : Int)) (sh := chkS) (x := (chkAt xs k n (tAt q0 n i))) (by as_aux_lemma => kernel_rfl) hS (by as_aux_lemma => kernel_rfl) H 10 rfl (tAt q0 n i) (by omega) (chksOf_get htl) ?_
           intro b55 o56 es57 hr58 H
           obtain ⟨cs0q59, a1q59, k1q59, rfl, hf60, hf61⟩ := chk_open hr58
           obtain ⟨cs0q62, rfl, hf63, hf64, hf65, hf66⟩ := hdr_open hf60
           obtain ⟨rfl, hf68, hf69, hf70⟩ := cid_open hf63
           have H := H.add (F := Rp SB [.slice a1q59 ((chkAt xs k n (tAt q0 n i)).data.length) k1q59] ((chkAt xs k n (tAt q0 n i)).data)) hf61
           refine qHP hS 1 (qs [7, 8, 9, 10, 11, 12, 13]) [(0, .slice a xs.length c), (1, .I k), (2, .I n), (3, .I fi), (4, .I la), (11, .P b21 0), (12, .slice a9 (chksOf xs k n).length c10), (14, .slice na (toL n n).length nc), (16, .P b43 0), (20, .I i), (21, .I ((tAt q0 n i : Nat) : Int)), (115, .agg (shfV s a006q k006q a03q k03q a04q k04q a1q k1q a33q k33q a34q k34q a35q k35q a36q k36q).toArray), (117, .I (((tAt q0 n i : Nat) : Int) + 1)), (121, .P b55 o56)] ?_
           refine qHL 122 (qs [8, 9, 10, 11, 12, 13]) 53 b55 o56 0 (.agg (hdrV ((chkAt xs k n (tAt q0 n i)).head)).toArray) hS (H.fc 1 rfl) (by simp) ?_
           refine qHP hS 2 (qs [10, 11, 12, 13]) [(0, .slice a xs.length c), (1, .I k), (2, .I n), (3, .I fi), (4, .I la), (11, .P b21 0), (12, .slice a9 (chksOf xs k n).length c10), (14, .slice na (toL n n).length nc), (16, .P b43 0), (20, .I i), (115, .agg (shfV s a006q k006q a03q k03q a04q k04q a1q k1q a33q k33q a34q k34q a35q k35q a36q k36q).toArray), (117, .I (((tAt q0 n i : Nat) : Int) + 1)), (122, .agg (hdrV ((chkAt xs k n (tAt q0 n i)).head)).toArray), (123, .slice a9 (chksOf xs k n).length c10), (124, .I ((tAt q0 n i : Nat) : Int))] ?_
           have hx71 : (tAt q0 n i) < (chksOf xs k n).length := by rw [chksOf_len]; exact htl
           refine RH.index (d := some 125) (r := (qs [11, 12, 13])) (T := 103) (e := 92) (ik := .i64) (ix := ((tAt q0 n i : Nat) : Int)) (sh := chkS) (x := (chkAt xs k n (tAt q0 n i))) (by as_aux_lemma => kernel_rfl) hS (by as_aux_lemma => kernel_rfl) H 12 rfl (tAt q0 n i) (by omega) (chksOf_get htl) ?_
           intro b72 o73 es74 hr75 H
           obtain ⟨cs0q76, a1q76, k1q76, rfl, hf77, hf78⟩ := chk_open hr75
           obtain ⟨cs0q79, rfl, hf80, hf81, hf82, hf83⟩ := hdr_open hf77
           obtain ⟨rfl, hf85, hf86, hf87⟩ := cid_open hf80
           have H := H.add (F := Rp SB [.slice a1q76 ((chkAt xs k n (tAt q0 n i)).data.length) k1q76] ((chkAt xs k n (tAt q0 n i)).data)) hf78
           refine qHP hS 1 (qs [12, 13]) [(0, .slice a xs.length c), (1, .I k), (2, .I n), (3, .I fi), (4, .I la), (11, .P b21 0), (12, .slice a9 (chksOf xs k n).length c10), (14, .slice na (toL n n).length nc), (16, .P b43 0), (20, .I i), (115, .agg (shfV s a006q k006q a03q k03q a04q k04q a1q k1q a33q k33q a34q k34q a35q k35q a36q k36q).toArray), (117, .I (((tAt q0 n i : Nat) : Int) + 1)), (122, .agg (hdrV ((chkAt xs k n (tAt q0 n i)).head)).toArray), (126, .pointer (some ⟨b72, o73 + 7, none⟩))] ?_
           refine qHL 127 [(13, .qui)] 23 b72 (o73 + 7) 7 (.slice a1q76 ((chkAt xs k n (tAt q0 n i)).data.length) k1q76) hS (H.fc 1 rfl) (by simp) ?_
           refine RH.finB hS 1 [0, 1, 2, 3, 4, 11, 12, 14, 16, 20, 115, 128] [(0, .slice a xs.length c), (1, .I k), (2, .I n), (3, .I fi), (4, .I la), (11, .P b21 0), (12, .slice a9 (chksOf xs k n).length c10), (14, .slice na (toL n n).length nc), (16, .P b43 0), (20, .I i), (115, .agg (shfV s a006q k006q a03q k03q a04q k04q a1q k1q a33q k33q a34q k34q a35q k35q a36q k36q).toArray), (128, .agg #[.I 15, .I (((tAt q0 n i : Nat) : Int) + 1), .I 0, .int .u64 0, .int .u64 0, .int .u64 0, .int .u64 0, .int .u64 0, .bool true, .bool false, .slice none 0 0, .slice none 0 0, .slice none 0 0, .int .u64 ((((chkAt xs k n (tAt q0 n i)).head).id).version), .I ((((chkAt xs k n (tAt q0 n i)).head).id).index), .int .u64 ((((chkAt xs k n (tAt q0 n i)).head).id).epoch), .I (((chkAt xs k n (tAt q0 n i)).head).kk), .I (((chkAt xs k n (tAt q0 n i)).head).nn), .I (((chkAt xs k n (tAt q0 n i)).head).size), .int .u32 (((((chkAt xs k n (tAt q0 n i)).head).sum).toNat : Nat) : Int), .slice a1q76 ((chkAt xs k n (tAt q0 n i)).data.length) k1q76, .int .u64 0, .int .u64 0, .I 0, .string (⟨#[]⟩), .I 0, .slice none 0 0])] (by as_aux_lemma => kernel_rfl) ?_
           refine (RGB.cons' ?_ (RGB.cons' ?_ RGB.nil'))
           ·
            refine RG.leaf' [(14, .seq), (15, .qui), (16, .qui), (17, .qui), (18, .qui), (19, .seq), (20, .seq), (21, .qui), (22, .qui)] (by as_aux_lemma => kernel_rfl) ?_
            have Hr := H
            refine RH.chn hS ?_
            refine qK .chn (some 129) [] 54 #[.agg (shfV s a006q k006q a03q k03q a04q k04q a1q k1q a33q k33q a34q k34q a35q k35q a36q k36q).toArray, .agg #[.I 15, .I (((tAt q0 n i : Nat) : Int) + 1), .I 0, .int .u64 0, .int .u64 0, .int .u64 0, .int .u64 0, .int .u64 0, .bool true, .bool false, .slice none 0 0, .slice none 0 0, .slice none 0 0, .int .u64 ((((chkAt xs k n (tAt q0 n i)).head).id).version), .I ((((chkAt xs k n (tAt q0 n i)).head).id).index), .int .u64 ((((chkAt xs k n (tAt q0 n i)).head).id).epoch), .I (((chkAt xs k n (tAt q0 n i)).head).kk), .I (((chkAt xs k n (tAt q0 n i)).head).nn), .I (((chkAt xs k n (tAt q0 n i)).head).size), .int .u32 (((((chkAt xs k n (tAt q0 n i)).head).sum).toNat : Nat) : Int), .slice a1q76 ((chkAt xs k n (tAt q0 n i)).data.length) k1q76, .int .u64 0, .int .u64 0, .I 0, .string (⟨#[]⟩), .I 0, .slice none 0 0]] (mgot_any (s := s) (shf_mk (y0 := s.read) (y3 := s.write) (rd_mkB (by unfold rdB; omega) (H.rp 5 rfl) (H.rp 6 rfl) (H.rp 7 rfl)) (H.rp 8 rfl) u64a (wr_mkV u64a u64a ⟨rfl, hsqw⟩ (H.rp 9 rfl) (H.rp 10 rfl) (H.rp 11 rfl) (H.rp 12 rfl) i64a i64a i64a) Shape.bool_mk i64a) (xs := xs) (k := k) (n := n) (hrv.rd.of) (hrv.dn) (hrv.ry) (((tAt q0 n i : Nat) : Int) + 1) ((chkAt xs k n (tAt q0 n i)).head) true (dt := (chkAt xs k n (tAt q0 n i)).data) (H.rp 0 rfl) (.I 0) (.int .u64 0) (.int .u64 0) (.int .u64 0) (.int .u64 0) (.int .u64 0) (.bool false) (.slice none 0 0) (.slice none 0 0) (.slice none 0 0) (.int .u64 0) (.int .u64 0) (.I 0) (.string (⟨#[]⟩)) (.I 0) (.slice none 0 0) (by rw [hrv.rd.bad]; decide) (by show (rowAt (enc xs k n) (tAt q0 n i)).length ≤ _; omega) (good_own (tAt q0 n i) rfl rfl) (by rw [hrv.rd.dn, if_neg (by omega)]) (by rw [hrv.to, toL_len]) (by rw [hrv.lim]; decide)) ?_
            rintro _ w89 hE91 ⟨cs90, a97, c98, s93, L100, rfl, hr92, hr99, hlaw95, hL101⟩
            have H0s := H
            obtain ⟨a006o102, k006o102, a03o102, k03o102, a04o102, k04o102, a1o102, k1o102, a33o102, k33o102, a34o102, k34o102, a35o102, k35o102, a36o102, k36o102, rfl, hBo102, H⟩ := addShf H hE91 hr92
            unfold shB wrB rdB at hBo102
            have hso102 := hBo102.1.1
            have hso102w := hBo102.2.2.1.1
            have H := H.add (F := Rp (Shape.slice msgS) [.slice a97 L100.length c98] L100) ((H0s.addN hE91 (F := Rp (Shape.slice msgS) [.slice a97 L100.length c98] L100) hr99).rp 0 rfl)
            intro hS
            refine qHP hS 4 [(19, .seq), (20, .seq), (21, .qui), (22, .qui)] [(0, .slice a xs.length c), (1, .I k), (2, .I n), (3, .I fi), (4, .I la), (11, .P b21 0), (12, .slice a9 (chksOf xs k n).length c10), (14, .slice na (toL n n).length nc), (16, .P b43 0), (20, .I i), (130, .agg (shfV s93 a006o102 k006o102 a03o102 k03o102 a04o102 k04o102 a1o102 k1o102 a33o102 k33o102 a34o102 k34o102 a35o102 k35o102 a36o102 k36o102).toArray), (131, .slice a97 L100.length c98), (132, .I s93.done)] ?_
            refine RH.chn hS ?_
            refine RW.newC (κ := .chn) (d := some 22) (r := []) (o := .cells (shfZ).toArray 118 (0, 0)) (v := fun b => .P b 0) (fun b => by as_aux_lemma => kernel_rfl) (nofun) H ?_
            intro b104 w105 hnw103 H
            have hnb106 := Nat.le_trans hS.size hnw103
            intro hS
            refine RH.sto ?_
            refine qWC 118 b104 0 [] (.agg (shfV s93 a006o102 k006o102 a03o102 k03o102 a04o102 k04o102 a1o102 k1o102 a33o102 k33o102 a34o102 k34o102 a35o102 k35o102 a36o102 k36o102).toArray) [(b104, .cells (shfV s93 a006o102 k006o102 a03o102 k03o102 a04o102 k04o102 a1o102 k1o102 a33o102 k33o102 a34o102 k34o102 a35o102 k35o102 a36o102 k36o102).toArray 118 (0, 0)), (b43, .cells (shfV s a006q k006q a03q k03q a04q k04q a1q k1q a33q k33q a34q k34q a35q k35q a36q k36q).toArray 118 (0, 0)), (b21, .cells (objV (objOf xs n) a6q14 k6q14).toArray 102 (0, 0))] H 0 rfl rfl ?_
            intro w108 hch107 H
            have hS109 := hS.sto hch107 (.inl hnb106)
            refine ⟨hS109, ?_⟩
            have hS := hS109
            refine RH.fin hS 2 [0, 1, 2, 3, 4, 11, 12, 14, 16, 20, 22, 23, 24] [(0, .slice a xs.length c), (1, .I k), (2, .I n), (3, .I fi), (4, .I la), (11, .P b21 0), (12, .slice a9 (chksOf xs k n).length c10), (14, .slice na (toL n n).length nc), (16, .P b43 0), (20, .I i), (22, .P b104 0), (23, .slice a97 L100.length c98), (24, .I s93.done)] (by as_aux_lemma => kernel_rfl) ?_
            have H := H.pick [0, 1, 2, 3, 4, 5, 6, 7, 8, 13, 14, 15, 16, 17, 18, 19, 20, 21, 22, 23, 24] rfl
            exact hJ50 (b104, s93, a006o102, k006o102, a03o102, k03o102, a04o102, k04o102, a1o102, k1o102, a33o102, k33o102, a34o102, k34o102, a35o102, k35o102, a36o102, k36o102, L100, a97, c98) _ ⟨H, hlaw95, by unfold shB wrB rdB; omega, hL101⟩
           ·
            refine RG.leaf' [(19, .seq), (14, .seq), (15, .qui), (16, .qui), (17, .qui), (18, .qui), (20, .seq), (21, .qui), (22, .qui)] (by as_aux_lemma => kernel_rfl) ?_
            have Hr := H
            refine RH.chn hS ?_
            refine RW.newC (κ := .chn) (d := some 22) (r := []) (o := .cells (shfZ).toArray 118 (0, 0)) (v := fun b => .P b 0) (fun b => by as_aux_lemma => kernel_rfl) (nofun) H ?_
            intro b111 w112 hnw110 H
            have hnb113 := Nat.le_trans hS.size hnw110
            intro hS
            refine RH.chn hS ?_
            refine qK .chn (some 129) [] 54 #[.agg (shfV s a006q k006q a03q k03q a04q k04q a1q k1q a33q k33q a34q k34q a35q k35q a36q k36q).toArray, .agg #[.I 15, .I (((tAt q0 n i : Nat) : Int) + 1), .I 0, .int .u64 0, .int .u64 0, .int .u64 0, .int .u64 0, .int .u64 0, .bool true, .bool false, .slice none 0 0, .slice none 0 0, .slice none 0 0, .int .u64 ((((chkAt xs k n (tAt q0 n i)).head).id).version), .I ((((chkAt xs k n (tAt q0 n i)).head).id).index), .int .u64 ((((chkAt xs k n (tAt q0 n i)).head).id).epoch), .I (((chkAt xs k n (tAt q0 n i)).head).kk), .I (((chkAt xs k n (tAt q0 n i)).head).nn), .I (((chkAt xs k n (tAt q0 n i)).head).size), .int .u32 (((((chkAt xs k n (tAt q0 n i)).head).sum).toNat : Nat) : Int), .slice a1q76 ((chkAt xs k n (tAt q0 n i)).data.length) k1q76, .int .u64 0, .int .u64 0, .I 0, .string (⟨#[]⟩), .I 0, .slice none 0 0]] (mgot_any (s := s) (shf_mk (y0 := s.read) (y3 := s.write) (rd_mkB (by unfold rdB; omega) (H.rp 5 rfl) (H.rp 6 rfl) (H.rp 7 rfl)) (H.rp 8 rfl) u64a (wr_mkV u64a u64a ⟨rfl, hsqw⟩ (H.rp 9 rfl) (H.rp 10 rfl) (H.rp 11 rfl) (H.rp 12 rfl) i64a i64a i64a) Shape.bool_mk i64a) (xs := xs) (k := k) (n := n) (hrv.rd.of) (hrv.dn) (hrv.ry) (((tAt q0 n i : Nat) : Int) + 1) ((chkAt xs k n (tAt q0 n i)).head) true (dt := (chkAt xs k n (tAt q0 n i)).data) (H.rp 0 rfl) (.I 0) (.int .u64 0) (.int .u64 0) (.int .u64 0) (.int .u64 0) (.int .u64 0) (.bool false) (.slice none 0 0) (.slice none 0 0) (.slice none 0 0) (.int .u64 0) (.int .u64 0) (.I 0) (.string (⟨#[]⟩)) (.I 0) (.slice none 0 0) (by rw [hrv.rd.bad]; decide) (by show (rowAt (enc xs k n) (tAt q0 n i)).length ≤ _; omega) (good_own (tAt q0 n i) rfl rfl) (by rw [hrv.rd.dn, if_neg (by omega)]) (by rw [hrv.to, toL_len]) (by rw [hrv.lim]; decide)) ?_
            rintro _ w115 hE117 ⟨cs116, a123, c124, s119, L126, rfl, hr118, hr125, hlaw121, hL127⟩
            have H0s := H
            obtain ⟨a006o128, k006o128, a03o128, k03o128, a04o128, k04o128, a1o128, k1o128, a33o128, k33o128, a34o128, k34o128, a35o128, k35o128, a36o128, k36o128, rfl, hBo128, H⟩ := addShf H hE117 hr118
            unfold shB wrB rdB at hBo128
            have hso128 := hBo128.1.1
            have hso128w := hBo128.2.2.1.1
            have H := H.add (F := Rp (Shape.slice msgS) [.slice a123 L126.length c124] L126) ((H0s.addN hE117 (F := Rp (Shape.slice msgS) [.slice a123 L126.length c124] L126) hr125).rp 0 rfl)
            intro hS
            refine qHP hS 4 [(20, .seq), (21, .qui), (22, .qui)] [(0, .slice a xs.length c), (1, .I k), (2, .I n), (3, .I fi), (4, .I la), (11, .P b21 0), (12, .slice a9 (chksOf xs k n).length c10), (14, .slice na (toL n n).length nc), (16, .P b43 0), (20, .I i), (22, .P b111 0), (130, .agg (shfV s119 a006o128 k006o128 a03o128 k03o128 a04o128 k04o128 a1o128 k1o128 a33o128 k33o128 a34o128 k34o128 a35o128 k35o128 a36o128 k36o128).toArray), (131, .slice a123 L126.length c124), (132, .I s119.done)] ?_
            refine RH.sto ?_
            refine qWC 118 b111 0 [] (.agg (shfV s119 a006o128 k006o128 a03o128 k03o128 a04o128 k04o128 a1o128 k1o128 a33o128 k33o128 a34o128 k34o128 a35o128 k35o128 a36o128 k36o128).toArray) [(b111, .cells (shfV s119 a006o128 k006o128 a03o128 k03o128 a04o128 k04o128 a1o128 k1o128 a33o128 k33o128 a34o128 k34o128 a35o128 k35o128 a36o128 k36o128).toArray 118 (0, 0)), (b43, .cells (shfV s a006q k006q a03q k03q a04q k04q a1q k1q a33q k33q a34q k34q a35q k35q a36q k36q).toArray 118 (0, 0)), (b21, .cells (objV (objOf xs n) a6q14 k6q14).toArray 102 (0, 0))] H 0 rfl rfl ?_
            intro w130 hch129 H
            have hS131 := hS.sto hch129 (.inl hnb113)
            refine ⟨hS131, ?_⟩
            have hS := hS131
            refine RH.fin hS 2 [0, 1, 2, 3, 4, 11, 12, 14, 16, 20, 22, 23, 24] [(0, .slice a xs.length c), (1, .I k), (2, .I n), (3, .I fi), (4, .I la), (11, .P b21 0), (12, .slice a9 (chksOf xs k n).length c10), (14, .slice na (toL n n).length nc), (16, .P b43 0), (20, .I i), (22, .P b111 0), (23, .slice a123 L126.length c124), (24, .I s119.done)] (by as_aux_lemma => kernel_rfl) ?_
            have H := H.pick [0, 1, 2, 3, 4, 5, 6, 7, 8, 13, 14, 15, 16, 17, 18, 19, 20, 21, 22, 23, 24] rfl
            exact hJ50 (b111, s119, a006o128, k006o128, a03o128, k03o128, a04o128, k04o128, a1o128, k1o128, a33o128, k33o128, a34o128, k34o128, a35o128, k35o128, a36o128, k36o128, L126, a123, c124) _ ⟨H, hlaw121, by unfold shB wrB rdB; omega, hL127⟩
          ·
           rintro ⟨bj, sj, a006j, k006j, a03j, k03j, a04j, k04j, a1j, k1j, a33j, k33j, a34j, k34j, a35j, k35j, a36j, k36j, Lj, maj, mcj⟩ w51 ⟨H, hij⟩
           obtain ⟨hlj, hBsj, hxj⟩ := hij
           have hBj := hBsj
           unfold shB wrB rdB at hBj
           have hsj := hBj.1.1
           have hsjw := hBj.2.2.1.1
           have hrs1 : i + 1 < k → Rv xs k n (tAt q0 n) sj (i + 1) ∧ Lj = [] := fun h => hrv.step h htl htn hlj hxj
           have hrs2 : i + 1 = k → Qv xs k n (tAt q1 n) sj 0 ∧ Lj = msgsOf (mW xs k n) := fun h => hrv.last _ h htl htn hlj hxj
           have hdj : sj.done = 0 := by
            rcases (show i + 1 < k ∨ i + 1 = k by omega) with h | h
            · exact (hrs1 h).1.dn
            · rw [(hrs2 h).1.dn, if_neg (by omega)]
           have hlnj := moves_l hkn (fun h => (hrs1 h).2) (fun h => (hrs2 h).2) (show i < k by omega)
           refine qR 2 [.c [8, 0, 1, 0, 0, 1, 0, 0, 2, 0, 0], .c [8, 0, 1, 0, 0, 1, 0, 0, 2, 0, 1], .c [8, 0, 1, 0, 0, 1, 0, 0, 3], .b 3, .c [8, 0, 1, 0, 0, 2], .l [8, 0, 1, 0, 0], .b 2, .c [9]] [(0, .slice a xs.length c), (1, .I k), (2, .I n), (3, .I fi), (4, .I la), (11, .P b21 0), (12, .slice a9 (chksOf xs k n).length c10), (14, .slice na (toL n n).length nc), (16, .P b43 0), (20, .I i), (22, .P bj 0), (23, .slice maj Lj.length mcj), (24, .I sj.done)] ?_
           refine qG (sq 0 12) ?_
           refine qP 3 (sq 3 12) [(0, .slice a xs.length c), (1, .I k), (2, .I n), (3, .I fi), (4, .I la), (11, .P b21 0), (12, .slice a9 (chksOf xs k n).length c10), (14, .slice na (toL n n).length nc), (16, .P b43 0), (20, .I i), (22, .P bj 0), (23, .slice maj Lj.length mcj), (135, .bool (sj.done != 0))] ?_
           refine tN (fun b_ => [(0, .slice a xs.length c), (1, .I k), (2, .I n), (3, .I fi), (4, .I la), (11, .P b21 0), (12, .slice a9 (chksOf xs k n).length c10), (14, .slice na (toL n n).length nc), (16, .P b43 0), (20, .I i), (22, .P bj 0), (23, .slice maj Lj.length mcj), (135, .bool b_)]) sj.done 0 (fun h132 => ?_) (fun h132 => ?_)
           ·
            exact absurd hdj h132
           ·
            refine qP 5 (sq 8 12) [(0, .slice a xs.length c), (1, .I k), (2, .I n), (3, .I fi), (4, .I la), (11, .P b21 0), (12, .slice a9 (chksOf xs k n).length c10), (14, .slice na (toL n n).length nc), (16, .P b43 0), (20, .I i), (22, .P bj 0), (23, .slice maj Lj.length mcj), (135, .bool false), (138, .bool (decide ((((Lj.length : Nat) : Int) : Int) > 0))), (139, .I i), (140, .I k)] ?_
            refine qI .seq 141 (sq 9 12) ((k : Int) - 1) ?_
            refine qF 3 [(0, .slice a xs.length c), (1, .I k), (2, .I n), (3, .I fi), (4, .I la), (11, .P b21 0), (12, .slice a9 (chksOf xs k n).length c10), (14, .slice na (toL n n).length nc), (16, .P b43 0), (20, .I i), (22, .P bj 0), (23, .slice maj Lj.length mcj), (144, .bool (!((decide ((((Lj.length : Nat) : Int) : Int) > 0)) == ((i : Int) == ((k : Int) - 1)))))] ?_
            refine qC (!((decide ((((Lj.length : Nat) : Int) : Int) > 0)) == ((i : Int) == ((k : Int) - 1)))) (fun h133 => ?_) (fun h133 => ?_)
            ·
             replace h133 : (((decide ((((Lj.length : Nat) : Int) : Int) > 0)) == ((i : Int) == ((k : Int) - 1)))) = false := by revert h133; cases (((decide ((((Lj.length : Nat) : Int) : Int) > 0)) == ((i : Int) == ((k : Int) - 1)))) <;> simp
             replace h133 := ne_of_beq_false h133
             exact absurd (moves_v (by omega) (by omega) hlnj) h133
            ·
             replace h133 : (((decide ((((Lj.length : Nat) : Int) : Int) > 0)) == ((i : Int) == ((k : Int) - 1)))) = true := by revert h133; cases (((decide ((((Lj.length : Nat) : Int) : Int) > 0)) == ((i : Int) == ((k : Int) - 1)))) <;> simp
             replace h133 := eq_of_beq h133
             refine qR 1 [.c [8, 0, 1, 0, 0, 1, 0, 0, 3], .b 3, .c [8, 0, 1, 0, 0, 2], .l [8, 0, 1, 0, 0], .b 2, .c [9]] [(0, .slice a xs.length c), (1, .I k), (2, .I n), (3, .I fi), (4, .I la), (11, .P b21 0), (12, .slice a9 (chksOf xs k n).length c10), (14, .slice na (toL n n).length nc), (16, .P b43 0), (20, .I i), (22, .P bj 0), (23, .slice maj Lj.length mcj)] ?_
             refine qG (sq 0 4) ?_
             refine qL .seq 145 (sq 1 4) 118 bj 0 0 (.agg (shfV sj a006j k006j a03j k03j a04j k04j a1j k1j a33j k33j a34j k34j a35j k35j a36j k36j).toArray) (H.cells 0 rfl) ?_
             refine qP 1 (sq 2 4) [(0, .slice a xs.length c), (1, .I k), (2, .I n), (3, .I fi), (4, .I la), (11, .P b21 0), (12, .slice a9 (chksOf xs k n).length c10), (14, .slice na (toL n n).length nc), (16, .P b43 0), (20, .I i), (145, .agg (shfV sj a006j k006j a03j k03j a04j k04j a1j k1j a33j k33j a34j k34j a35j k35j a36j k36j).toArray), (146, .slice maj Lj.length mcj)] ?_
             refine qW 118 b43 0 (sq 3 4) (.agg (shfV sj a006j k006j a03j k03j a04j k04j a1j k1j a33j k33j a34j k34j a35j k35j a36j k36j).toArray) [(bj, .cells (shfV sj a006j k006j a03j k03j a04j k04j a1j k1j a33j k33j a34j k34j a35j k35j a36j k36j).toArray 118 (0, 0)), (b43, .cells (shfV sj a006j k006j a03j k03j a04j k04j a1j k1j a33j k33j a34j k34j a35j k35j a36j k36j).toArray 118 (0, 0)), (b21, .cells (objV (objOf xs n) a6q14 k6q14).toArray 102 (0, 0))] H 1 rfl rfl ?_
             intro w134 H
             refine qF 1 [(0, .slice a xs.length c), (1, .I k), (2, .I n), (3, .I fi), (4, .I la), (11, .P b21 0), (12, .slice a9 (chksOf xs k n).length c10), (14, .slice na (toL n n).length nc), (16, .P b43 0), (19, .slice maj Lj.length mcj), (20, .I i)] ?_
             refine qR 1 [.c [8, 0, 1, 0, 0, 2], .l [8, 0, 1, 0, 0], .b 2, .c [9]] [(0, .slice a xs.length c), (1, .I k), (2, .I n), (3, .I fi), (4, .I la), (11, .P b21 0), (12, .slice a9 (chksOf xs k n).length c10), (14, .slice na (toL n n).length nc), (16, .P b43 0), (19, .slice maj Lj.length mcj), (20, .I i)] ?_
             refine qG (sq 0 3) ?_
             refine qP 1 (sq 1 3) [(0, .slice a xs.length c), (1, .I k), (2, .I n), (3, .I fi), (4, .I la), (11, .P b21 0), (12, .slice a9 (chksOf xs k n).length c10), (14, .slice na (toL n n).length nc), (16, .P b43 0), (19, .slice maj Lj.length mcj), (20, .I i), (105, .I i)] ?_
             refine qI .seq 106 (sq 2 3) ((i : Int) + 1) ?_
             refine qF 1 [(0, .slice a xs.length c), (1, .I k), (2, .I n), (3, .I fi), (4, .I la), (11, .P b21 0), (12, .slice a9 (chksOf xs k n).length c10), (14, .slice na (toL n n).length nc), (16, .P b43 0), (19, .slice maj Lj.length mcj), (20, .I ((i : Int) + 1))] ?_
             have H := H.pick [0, 1, 2, 3, 4, 5, 6, 7, 8, 18, 19, 20] rfl
             have H := H.frontM 2 (M' := [(b21, .cells (objV (objOf xs n) a6q14 k6q14).toArray 102 (0, 0)), (bj, .cells (shfV sj a006j k006j a03j k03j a04j k04j a1j k1j a33j k33j a34j k34j a35j k35j a36j k36j).toArray 118 (0, 0)), (b43, .cells (shfV sj a006j k006j a03j k03j a04j k04j a1j k1j a33j k33j a34j k34j a35j k35j a36j k36j).toArray 118 (0, 0))]) rfl
             have H := H.frontM 2 (M' := [(b43, .cells (shfV sj a006j k006j a03j k03j a04j k04j a1j k1j a33j k33j a34j k34j a35j k35j a36j k36j).toArray 118 (0, 0)), (b21, .cells (objV (objOf xs n) a6q14 k6q14).toArray 102 (0, 0)), (bj, .cells (shfV sj a006j k006j a03j k03j a04j k04j a1j k1j a33j k33j a34j k34j a35j k35j a36j k36j).toArray 118 (0, 0))]) rfl
             have H := H.drop (M' := [(b43, .cells (shfV sj a006j k006j a03j k03j a04j k04j a1j k1j a33j k33j a34j k34j a35j k35j a36j k36j).toArray 118 (0, 0)), (b21, .cells (objV (objOf xs n) a6q14 k6q14).toArray 102 (0, 0))]) (W' := []) (by repeat (first | exact List.Sublist.refl _ | apply List.Sublist.cons_cons | apply List.Sublist.cons)) (by repeat (first | exact List.Sublist.refl _ | apply List.Sublist.cons_cons | apply List.Sublist.cons))
             exact WK.back (hback47 (i + 1, sj, Lj, a006j, k006j, a03j, k03j, a04j, k04j, a1j, k1j, a33j, k33j, a34j, k34j, a35j, k35j, a36j, k36j, maj, mcj) _ ⟨H, by omega, hBsj, hrs1, hrs2⟩ (by simp only []; omega)) (by as_aux_lemma => kernel_rfl)
         ·
          obtain ⟨hqv, hpu⟩ := hrd2 (by omega)
          refine qR 4 [.c [9, 0, 1], .c [10]] [(0, .slice a xs.length c), (1, .I k), (2, .I n), (4, .I la), (11, .P b21 0), (14, .slice na (toL n n).length nc), (16, .P b43 0), (19, .slice pa pu.length pc), (150, .bool (((pu.length : Nat) : Int) != (n : Int)))] ?_
          refine qN ((pu.length : Nat) : Int) (n : Int) (fun h135 => ?_) (fun h135 => ?_)
          ·
           exact absurd (by rw [hpu, mmsgs_len hkn]) h135
          ·
           refine qR 5 [.c [10, 0, 1, 0], .b 4, .c [11]] [(0, .slice a xs.length c), (1, .I k), (2, .I n), (4, .I la), (11, .P b21 0), (14, .slice na (toL n n).length nc), (16, .P b43 0), (19, .slice pa pu.length pc), (25, .I 0)] ?_
           have H := H.pick [1, 2, 3, 4, 5, 6, 7, 8, 0, 9, 10, 11] rfl
           refine WK.loop (α := Nat × Shf × Option Addr × Nat × Option Addr × Nat × Option Addr × Nat × Option Addr × Nat × Option Addr × Nat × Option Addr × Nat × Option Addr × Nat × Option Addr × Nat) (b := cd Try.prog 16 [10, 0, 1, 0, 0]) (by as_aux_lemma => kernel_rfl) (fun st_ => match st_ with | (y, s2, a006u, k006u, a03u, k03u, a04u, k04u, a1u, k1u, a33u, k33u, a34u, k34u, a35u, k35u, a36u, k36u) => [(0, .slice a xs.length c), (1, .I k), (2, .I n), (4, .I la), (11, .P b21 0), (14, .slice na (toL n n).length nc), (16, .P b43 0), (19, .slice pa pu.length pc), (25, .I y)]) (fun st_ w' => match st_ with | (y, s2, a006u, k006u, a03u, k03u, a04u, k04u, a1u, k1u, a33u, k33u, a34u, k34u, a35u, k35u, a36u, k36u) => Hp w S [] [(b43, .cells (shfV s2 a006u k006u a03u k03u a04u k04u a1u k1u a33u k33u a34u k34u a35u k35u a36u k36u).toArray 118 (0, 0)), (b21, .cells (objV (objOf xs n) a6q14 k6q14).toArray 102 (0, 0))] [] [Rp Li [.slice a006u s2.read.object.nodes.length k006u] s2.read.object.nodes, Rp (Shape.slice pcS) [.slice a03u s2.read.pieces.length k03u] s2.read.pieces, Rp Li [.slice a04u s2.read.bad.length k04u] s2.read.bad, Rp Li [.slice a1u s2.to.length k1u] s2.to, Rp (Shape.slice hdrS) [.slice a33u s2.write.heads.length k33u] s2.write.heads, Rp (Shape.slice SB) [.slice a34u s2.write.chunks.length k34u] s2.write.chunks, Rp Li [.slice a35u s2.write.nodes.length k35u] s2.write.nodes, Rp Li [.slice a36u s2.write.acks.length k36u] s2.write.acks, Rp (Shape.slice msgS) [.slice pa pu.length pc] pu, Rp Li [.slice na (toL n n).length nc] (toL n n), Rp (Shape.slice chkS) [.slice a9 (chksOf xs k n).length c10] (chksOf xs k n), Rp SB [.slice a xs.length c] xs] w' ∧ y ≤ n ∧ shB s2 ∧ Qv xs k n (tAt q1 n) s2 y) (fun st_ => match st_ with | (y, s2, a006u, k006u, a03u, k03u, a04u, k04u, a1u, k1u, a33u, k33u, a34u, k34u, a35u, k35u, a36u, k36u) => n - y) (0, s, a006q, k006q, a03q, k03q, a04q, k04q, a1q, k1q, a33q, k33q, a34q, k34q, a35q, k35q, a36q, k36q) ⟨H, by omega, hBs, hqv⟩ (rfl) ?_
           rintro ⟨y, s2, a006u, k006u, a03u, k03u, a04u, k04u, a1u, k1u, a33u, k33u, a34u, k34u, a35u, k35u, a36u, k36u⟩ w137 ⟨H, hinv2⟩ hback136
           obtain ⟨hy1, hBs2, hqv2⟩ := hinv2
           have hBu := hBs2
           unfold shB wrB rdB at hBu
           have hsu := hBu.1.1
           have hsuw := hBu.2.2.1.1
           refine qR 3 [.c [10, 0, 1, 0, 0, 0, 1], .c [10, 0, 1, 0, 0, 1], .l [10, 0, 1, 0, 0], .b 4, .c [11]] [(0, .slice a xs.length c), (1, .I k), (2, .I n), (4, .I la), (11, .P b21 0), (14, .slice na (toL n n).length nc), (16, .P b43 0), (19, .slice pa pu.length pc), (25, .I y), (153, .bool (decide (((y : Int) : Int) < (n : Int))))] ?_
           refine qD (((y : Int) : Int) < (n : Int)) (fun h138 => ?_) (fun h138 => ?_)
           ·
            have htl2 : tAt q1 n y < n := tAt_lt (by omega)
            refine qR 4 [.c [10, 0, 1, 0, 0, 1, 0, 0, 0], .c [10, 0, 1, 0, 0, 1, 0, 0, 1], .b 5, .c [10, 0, 1, 0, 0, 2], .l [10, 0, 1, 0, 0], .b 4, .c [11]] [(0, .slice a xs.length c), (1, .I k), (2, .I n), (4, .I la), (11, .P b21 0), (14, .slice na (toL n n).length nc), (16, .P b43 0), (19, .slice pa pu.length pc), (25, .I y)] ?_
            refine qG (sq 0 8) ?_
            refine qP 2 (sq 2 8) [(0, .slice a xs.length c), (1, .I k), (2, .I n), (4, .I la), (11, .P b21 0), (14, .slice na (toL n n).length nc), (16, .P b43 0), (19, .slice pa pu.length pc), (25, .I y), (156, .I la), (157, .I n)] ?_
            refine RW.readS (κ := .seq) (d := some 158) (r := (sq 3 8)) (s := semV (Op.intDiv .rem .i64 (la : Int) (n : Int))) (v := .I q1) (by as_aux_lemma => kernel_rfl) (fun w' _ => semV_run (rem_nat (r := q1) (by omega) (by omega) (hq1))) ?_
            refine qP 1 (sq 4 8) [(0, .slice a xs.length c), (1, .I k), (2, .I n), (4, .I la), (11, .P b21 0), (14, .slice na (toL n n).length nc), (16, .P b43 0), (19, .slice pa pu.length pc), (25, .I y), (158, .I q1), (159, .I y)] ?_
            refine qI .seq 160 (sq 5 8) ((q1 : Int) + (y : Int)) ?_
            refine qP 1 (sq 6 8) [(0, .slice a xs.length c), (1, .I k), (2, .I n), (4, .I la), (11, .P b21 0), (14, .slice na (toL n n).length nc), (16, .P b43 0), (19, .slice pa pu.length pc), (25, .I y), (160, .I ((q1 : Int) + (y : Int))), (161, .I n)] ?_
            refine RW.readS (κ := .seq) (d := some 162) (r := (sq 7 8)) (s := semV (Op.intDiv .rem .i64 ((q1 : Int) + (y : Int)) (n : Int))) (v := .I ((tAt q1 n y : Nat) : Int)) (by as_aux_lemma => kernel_rfl) (fun w' _ => semV_run (rem_nat (r := tAt q1 n y) (by omega) (by omega) (rfl))) ?_
            refine qF 1 [(0, .slice a xs.length c), (1, .I k), (2, .I n), (4, .I la), (11, .P b21 0), (14, .slice na (toL n n).length nc), (16, .P b43 0), (19, .slice pa pu.length pc), (25, .I y), (26, .I ((tAt q1 n y : Nat) : Int))] ?_
            refine qR 1 [.c [10, 0, 1, 0, 0, 1, 0, 0, 1, 0], .c [10, 0, 1, 0, 0, 1, 0, 0, 2], .b 5, .c [10, 0, 1, 0, 0, 2], .l [10, 0, 1, 0, 0], .b 4, .c [11]] [(0, .slice a xs.length c), (1, .I k), (2, .I n), (4, .I la), (11, .P b21 0), (14, .slice na (toL n n).length nc), (16, .P b43 0), (19, .slice pa pu.length pc), (25, .I y), (26, .I ((tAt q1 n y : Nat) : Int))] ?_
            refine WK.joinV (α := Nat × Shf × Option Addr × Nat × Option Addr × Nat × Option Addr × Nat × Option Addr × Nat × Option Addr × Nat × Option Addr × Nat × Option Addr × Nat × Option Addr × Nat) (fun x_ w_ => match x_ with | (bp, sp, a006p, k006p, a03p, k03p, a04p, k04p, a1p, k1p, a33p, k33p, a34p, k34p, a35p, k35p, a36p, k36p) => Hp w S [] [(bp, .cells (shfV sp a006p k006p a03p k03p a04p k04p a1p k1p a33p k33p a34p k34p a35p k35p a36p k36p).toArray 118 (0, 0)), (b43, .cells (shfV s2 a006u k006u a03u k03u a04u k04u a1u k1u a33u k33u a34u k34u a35u k35u a36u k36u).toArray 118 (0, 0)), (b21, .cells (objV (objOf xs n) a6q14 k6q14).toArray 102 (0, 0))] [] [Rp Li [.slice a006p sp.read.object.nodes.length k006p] sp.read.object.nodes, Rp (Shape.slice pcS) [.slice a03p sp.read.pieces.length k03p] sp.read.pieces, Rp Li [.slice a04p sp.read.bad.length k04p] sp.read.bad, Rp Li [.slice a1p sp.to.length k1p] sp.to, Rp (Shape.slice hdrS) [.slice a33p sp.write.heads.length k33p] sp.write.heads, Rp (Shape.slice SB) [.slice a34p sp.write.chunks.length k34p] sp.write.chunks, Rp Li [.slice a35p sp.write.nodes.length k35p] sp.write.nodes, Rp Li [.slice a36p sp.write.acks.length k36p] sp.write.acks, Rp Li [.slice a006u s2.read.object.nodes.length k006u] s2.read.object.nodes, Rp (Shape.slice pcS) [.slice a03u s2.read.pieces.length k03u] s2.read.pieces, Rp Li [.slice a04u s2.read.bad.length k04u] s2.read.bad, Rp Li [.slice a1u s2.to.length k1u] s2.to, Rp (Shape.slice hdrS) [.slice a33u s2.write.heads.length k33u] s2.write.heads, Rp (Shape.slice SB) [.slice a34u s2.write.chunks.length k34u] s2.write.chunks, Rp Li [.slice a35u s2.write.nodes.length k35u] s2.write.nodes, Rp Li [.slice a36u s2.write.acks.length k36u] s2.write.acks, Rp (Shape.slice msgS) [.slice pa pu.length pc] pu, Rp Li [.slice na (toL n n).length nc] (toL n n), Rp (Shape.slice chkS) [.slice a9 (chksOf xs k n).length c10] (chksOf xs k n), Rp SB [.slice a xs.length c] xs] w_ ∧ (sp = mwriteR s2 (prepOf (mW xs k n) (tAt q1 n y)).to (prepOf (mW xs k n) (tAt q1 n y)).head true) ∧ shB sp ∧ True) (fun x_ => match x_ with | (bp, sp, a006p, k006p, a03p, k03p, a04p, k04p, a1p, k1p, a33p, k33p, a34p, k34p, a35p, k35p, a36p, k36p) => [(0, .slice a xs.length c), (1, .I k), (2, .I n), (4, .I la), (11, .P b21 0), (14, .slice na (toL n n).length nc), (16, .P b43 0), (19, .slice pa pu.length pc), (25, .I y), (27, .P bp 0), (29, .I sp.done)]) [Cq Try.prog 16 [10, 0, 1, 0, 0, 1, 0, 0, 2], .inBlock 5, Cq Try.prog 16 [10, 0, 1, 0, 0, 2], Lq Try.prog 16 [10, 0, 1, 0, 0], .inBlock 4, Cq Try.prog 16 [11]] (fun hJ139 => ?_) ?_
            ·
             refine WK.drawH1 [] (.node (qs [0, 1, 2, 3, 4, 5, 6, 7, 8, 9, 10, 11]) (.cons 12 (.leaf [(13, .qui), (14, .qui), (15, .qui), (16, .qui), (17, .seq), (18, .seq), (19, .qui), (20, .qui)]) (.cons 17 (.leaf [(12, .seq), (13, .qui), (14, .qui), (15, .qui), (16, .qui), (18, .seq), (19, .qui), (20, .qui)]) .nil))) Try_mixed (by as_aux_lemma => kernel_rfl) (by as_aux_lemma => kernel_rfl) ?_
             intro w141 hw142
             have H := H.draw
             rw [← hw142] at H
             clear hw142
             have hS := Chg.refl w141 []
             refine RG.node' (qs [0, 1, 2, 3, 4, 5, 6, 7, 8, 9, 10, 11]) (by as_aux_lemma => kernel_rfl) ?_
             refine qHL 164 (qs [1, 2, 3, 4, 5, 6, 7, 8, 9, 10, 11]) 118 b43 0 0 (.agg (shfV s2 a006u k006u a03u k03u a04u k04u a1u k1u a33u k33u a34u k34u a35u k35u a36u k36u).toArray) hS (H.cells 0 rfl) (by simp) ?_
             refine qHP hS 2 (qs [3, 4, 5, 6, 7, 8, 9, 10, 11]) [(0, .slice a xs.length c), (1, .I k), (2, .I n), (4, .I la), (11, .P b21 0), (14, .slice na (toL n n).length nc), (16, .P b43 0), (19, .slice pa pu.length pc), (25, .I y), (26, .I ((tAt q1 n y : Nat) : Int)), (164, .agg (shfV s2 a006u k006u a03u k03u a04u k04u a1u k1u a33u k33u a34u k34u a35u k35u a36u k36u).toArray), (165, .slice pa pu.length pc), (166, .I ((tAt q1 n y : Nat) : Int))] ?_
             have hx143 : (tAt q1 n y) < pu.length := by rw [hpu, mmsgs_len hkn]; exact htl2
             refine RH.index (d := some 167) (r := (qs [4, 5, 6, 7, 8, 9, 10, 11])) (T := 33) (e := 57) (ik := .i64) (ix := ((tAt q1 n y : Nat) : Int)) (sh := msgS) (x := (prepOf (mW xs k n) (tAt q1 n y))) (by as_aux_lemma => kernel_rfl) hS (by as_aux_lemma => kernel_rfl) H 8 rfl (tAt q1 n y) (by omega) (by rw [hpu]; exact mmsgs_all hkn htl2) ?_
             intro b144 o145 es146 hr147 H
             obtain ⟨a10q148, k10q148, cs11q148, cs12q148, a13q148, k13q148, a19q148, k19q148, rfl, hf149, hf150, hf151, hf152, hf153, hf154, hf155, hf156, hf157, hf158, hf159, hf160, hf161, hf162, hf163, hf164, hf165, hf166⟩ := msg_open hr147
             obtain ⟨a0q167, k0q167, a1q167, k1q167, rfl, hf168, hf169⟩ := conf_open hf158
             obtain ⟨cs0q170, rfl, hf171, hf172, hf173, hf174⟩ := hdr_open hf159
             obtain ⟨rfl, hf176, hf177, hf178⟩ := cid_open hf171
             have H := H.add (F := Rp (Shape.slice entS) [.slice a10q148 ((prepOf (mW xs k n) (tAt q1 n y)).entries.length) k10q148] ((prepOf (mW xs k n) (tAt q1 n y)).entries)) hf157
             have H := H.add (F := Rp Li [.slice a0q167 (((prepOf (mW xs k n) (tAt q1 n y)).conf).voters.length) k0q167] (((prepOf (mW xs k n) (tAt q1 n y)).conf).voters)) hf168
             have H := H.add (F := Rp Li [.slice a1q167 (((prepOf (mW xs k n) (tAt q1 n y)).conf).learners.length) k1q167] (((prepOf (mW xs k n) (tAt q1 n y)).conf).learners)) hf169
             have H := H.add (F := Rp SB [.slice a13q148 ((prepOf (mW xs k n) (tAt q1 n y)).data.length) k13q148] ((prepOf (mW xs k n) (tAt q1 n y)).data)) hf160
             have H := H.add (F := Rp (Shape.slice Shape.str) [.slice a19q148 ((prepOf (mW xs k n) (tAt q1 n y)).names.length) k19q148] ((prepOf (mW xs k n) (tAt q1 n y)).names)) hf166
             refine qHP hS 1 (qs [5, 6, 7, 8, 9, 10, 11]) [(0, .slice a xs.length c), (1, .I k), (2, .I n), (4, .I la), (11, .P b21 0), (14, .slice na (toL n n).length nc), (16, .P b43 0), (19, .slice pa pu.length pc), (25, .I y), (26, .I ((tAt q1 n y : Nat) : Int)), (164, .agg (shfV s2 a006u k006u a03u k03u a04u k04u a1u k1u a33u k33u a34u k34u a35u k35u a36u k36u).toArray), (168, .pointer (some ⟨b144, o145 + 2, none⟩))] ?_
             refine qHL 169 (qs [6, 7, 8, 9, 10, 11]) 3 b144 (o145 + 2) 2 (.I ((prepOf (mW xs k n) (tAt q1 n y)).to)) hS (H.fc 5 rfl) (by simp) ?_
             refine qHP hS 2 (qs [8, 9, 10, 11]) [(0, .slice a xs.length c), (1, .I k), (2, .I n), (4, .I la), (11, .P b21 0), (14, .slice na (toL n n).length nc), (16, .P b43 0), (19, .slice pa pu.length pc), (25, .I y), (164, .agg (shfV s2 a006u k006u a03u k03u a04u k04u a1u k1u a33u k33u a34u k34u a35u k35u a36u k36u).toArray), (169, .I ((prepOf (mW xs k n) (tAt q1 n y)).to)), (170, .slice pa pu.length pc), (171, .I ((tAt q1 n y : Nat) : Int))] ?_
             have hx179 : (tAt q1 n y) < pu.length := by rw [hpu, mmsgs_len hkn]; exact htl2
             refine RH.index (d := some 172) (r := (qs [9, 10, 11])) (T := 33) (e := 57) (ik := .i64) (ix := ((tAt q1 n y : Nat) : Int)) (sh := msgS) (x := (prepOf (mW xs k n) (tAt q1 n y))) (by as_aux_lemma => kernel_rfl) hS (by as_aux_lemma => kernel_rfl) H 14 rfl (tAt q1 n y) (by omega) (by rw [hpu]; exact mmsgs_all hkn htl2) ?_
             intro b180 o181 es182 hr183 H
             obtain ⟨a10q184, k10q184, cs11q184, cs12q184, a13q184, k13q184, a19q184, k19q184, rfl, hf185, hf186, hf187, hf188, hf189, hf190, hf191, hf192, hf193, hf194, hf195, hf196, hf197, hf198, hf199, hf200, hf201, hf202⟩ := msg_open hr183
             obtain ⟨a0q203, k0q203, a1q203, k1q203, rfl, hf204, hf205⟩ := conf_open hf194
             obtain ⟨cs0q206, rfl, hf207, hf208, hf209, hf210⟩ := hdr_open hf195
             obtain ⟨rfl, hf212, hf213, hf214⟩ := cid_open hf207
             have H := H.add (F := Rp (Shape.slice entS) [.slice a10q184 ((prepOf (mW xs k n) (tAt q1 n y)).entries.length) k10q184] ((prepOf (mW xs k n) (tAt q1 n y)).entries)) hf193
             have H := H.add (F := Rp Li [.slice a0q203 (((prepOf (mW xs k n) (tAt q1 n y)).conf).voters.length) k0q203] (((prepOf (mW xs k n) (tAt q1 n y)).conf).voters)) hf204
             have H := H.add (F := Rp Li [.slice a1q203 (((prepOf (mW xs k n) (tAt q1 n y)).conf).learners.length) k1q203] (((prepOf (mW xs k n) (tAt q1 n y)).conf).learners)) hf205
             have H := H.add (F := Rp SB [.slice a13q184 ((prepOf (mW xs k n) (tAt q1 n y)).data.length) k13q184] ((prepOf (mW xs k n) (tAt q1 n y)).data)) hf196
             have H := H.add (F := Rp (Shape.slice Shape.str) [.slice a19q184 ((prepOf (mW xs k n) (tAt q1 n y)).names.length) k19q184] ((prepOf (mW xs k n) (tAt q1 n y)).names)) hf202
             refine qHP hS 1 (qs [10, 11]) [(0, .slice a xs.length c), (1, .I k), (2, .I n), (4, .I la), (11, .P b21 0), (14, .slice na (toL n n).length nc), (16, .P b43 0), (19, .slice pa pu.length pc), (25, .I y), (164, .agg (shfV s2 a006u k006u a03u k03u a04u k04u a1u k1u a33u k33u a34u k34u a35u k35u a36u k36u).toArray), (169, .I ((prepOf (mW xs k n) (tAt q1 n y)).to)), (173, .pointer (some ⟨b180, o181 + 13, none⟩))] ?_
             refine qHL 174 [(11, .qui)] 53 b180 (o181 + 13) 13 (.agg (hdrV ((prepOf (mW xs k n) (tAt q1 n y)).head)).toArray) hS (H.fc 5 rfl) (by simp) ?_
             refine RH.finB hS 1 [0, 1, 2, 4, 11, 14, 16, 19, 25, 164, 175] [(0, .slice a xs.length c), (1, .I k), (2, .I n), (4, .I la), (11, .P b21 0), (14, .slice na (toL n n).length nc), (16, .P b43 0), (19, .slice pa pu.length pc), (25, .I y), (164, .agg (shfV s2 a006u k006u a03u k03u a04u k04u a1u k1u a33u k33u a34u k34u a35u k35u a36u k36u).toArray), (175, .agg #[.I 10, .I ((prepOf (mW xs k n) (tAt q1 n y)).to), .I 0, .int .u64 0, .int .u64 0, .int .u64 0, .int .u64 0, .int .u64 0, .bool true, .bool false, .slice none 0 0, .slice none 0 0, .slice none 0 0, .int .u64 ((((prepOf (mW xs k n) (tAt q1 n y)).head).id).version), .I ((((prepOf (mW xs k n) (tAt q1 n y)).head).id).index), .int .u64 ((((prepOf (mW xs k n) (tAt q1 n y)).head).id).epoch), .I (((prepOf (mW xs k n) (tAt q1 n y)).head).kk), .I (((prepOf (mW xs k n) (tAt q1 n y)).head).nn), .I (((prepOf (mW xs k n) (tAt q1 n y)).head).size), .int .u32 (((((prepOf (mW xs k n) (tAt q1 n y)).head).sum).toNat : Nat) : Int), .slice none 0 0, .int .u64 0, .int .u64 0, .I 0, .string (⟨#[]⟩), .I 0, .slice none 0 0])] (by as_aux_lemma => kernel_rfl) ?_
             refine (RGB.cons' ?_ (RGB.cons' ?_ RGB.nil'))
             ·
              refine RG.leaf' [(12, .seq), (13, .qui), (14, .qui), (15, .qui), (16, .qui), (17, .seq), (18, .seq), (19, .qui), (20, .qui)] (by as_aux_lemma => kernel_rfl) ?_
              have Hr := H
              refine RH.chn hS ?_
              refine qK .chn (some 176) [] 54 #[.agg (shfV s2 a006u k006u a03u k03u a04u k04u a1u k1u a33u k33u a34u k34u a35u k35u a36u k36u).toArray, .agg #[.I 10, .I ((prepOf (mW xs k n) (tAt q1 n y)).to), .I 0, .int .u64 0, .int .u64 0, .int .u64 0, .int .u64 0, .int .u64 0, .bool true, .bool false, .slice none 0 0, .slice none 0 0, .slice none 0 0, .int .u64 ((((prepOf (mW xs k n) (tAt q1 n y)).head).id).version), .I ((((prepOf (mW xs k n) (tAt q1 n y)).head).id).index), .int .u64 ((((prepOf (mW xs k n) (tAt q1 n y)).head).id).epoch), .I (((prepOf (mW xs k n) (tAt q1 n y)).head).kk), .I (((prepOf (mW xs k n) (tAt q1 n y)).head).nn), .I (((prepOf (mW xs k n) (tAt q1 n y)).head).size), .int .u32 (((((prepOf (mW xs k n) (tAt q1 n y)).head).sum).toNat : Nat) : Int), .slice none 0 0, .int .u64 0, .int .u64 0, .I 0, .string (⟨#[]⟩), .I 0, .slice none 0 0]] (mgot_ready (s := s2) (shf_mk (y0 := s2.read) (y3 := s2.write) (rd_mkB (by unfold rdB; omega) (H.rp 12 rfl) (H.rp 13 rfl) (H.rp 14 rfl)) (H.rp 15 rfl) u64a (wr_mkV u64a u64a ⟨rfl, hsuw⟩ (H.rp 16 rfl) (H.rp 17 rfl) (H.rp 18 rfl) (H.rp 19 rfl) i64a i64a i64a) Shape.bool_mk i64a) (hqv2.dn.trans (if_neg (by omega))) (hqv2.ry) ((prepOf (mW xs k n) (tAt q1 n y)).to) ((prepOf (mW xs k n) (tAt q1 n y)).head) true (.I 0) (.int .u64 0) (.int .u64 0) (.int .u64 0) (.int .u64 0) (.int .u64 0) (.bool false) (.slice none 0 0) (.slice none 0 0) (.slice none 0 0) (.slice none 0 0) (.int .u64 0) (.int .u64 0) (.I 0) (.string (⟨#[]⟩)) (.I 0) (.slice none 0 0) (by rw [hqv2.hl hkn]; omega) (hqv2.e hkn (by omega) (fun j _ => tAt_lt (by omega)) (tAt_inj (by omega) (by omega)) (mprep_to htl2) (mprep_head hkn htl2))) ?_
              rintro _ w216 hE218 ⟨cs217, W224, e225, rfl, hr219, hl226⟩
              have H0s := H
              obtain ⟨s220, hs221⟩ : ∃ s_ : Shf, s_ = { s2 with write := W224, done := e225 } := ⟨_, rfl⟩
              rw [← hs221] at hr219
              have hlaw222 : s220 = mwriteR s2 ((prepOf (mW xs k n) (tAt q1 n y)).to) ((prepOf (mW xs k n) (tAt q1 n y)).head) true := hs221.trans (mwriteR_eq hl226)
              rw [show e225 = s220.done by rw [hs221]]
              obtain ⟨a006o227, k006o227, a03o227, k03o227, a04o227, k04o227, a1o227, k1o227, a33o227, k33o227, a34o227, k34o227, a35o227, k35o227, a36o227, k36o227, rfl, hBo227, H⟩ := addShf H hE218 hr219
              unfold shB wrB rdB at hBo227
              have hso227 := hBo227.1.1
              have hso227w := hBo227.2.2.1.1
              intro hS
              refine qHP hS 4 [(17, .seq), (18, .seq), (19, .qui), (20, .qui)] [(0, .slice a xs.length c), (1, .I k), (2, .I n), (4, .I la), (11, .P b21 0), (14, .slice na (toL n n).length nc), (16, .P b43 0), (19, .slice pa pu.length pc), (25, .I y), (177, .agg (shfV s220 a006o227 k006o227 a03o227 k03o227 a04o227 k04o227 a1o227 k1o227 a33o227 k33o227 a34o227 k34o227 a35o227 k35o227 a36o227 k36o227).toArray), (178, .slice none 0 0), (179, .I s220.done)] ?_
              refine RH.chn hS ?_
              refine RW.newC (κ := .chn) (d := some 27) (r := []) (o := .cells (shfZ).toArray 118 (0, 0)) (v := fun b => .P b 0) (fun b => by as_aux_lemma => kernel_rfl) (nofun) H ?_
              intro b229 w230 hnw228 H
              have hnb231 := Nat.le_trans hS.size hnw228
              intro hS
              refine RH.sto ?_
              refine qWC 118 b229 0 [] (.agg (shfV s220 a006o227 k006o227 a03o227 k03o227 a04o227 k04o227 a1o227 k1o227 a33o227 k33o227 a34o227 k34o227 a35o227 k35o227 a36o227 k36o227).toArray) [(b229, .cells (shfV s220 a006o227 k006o227 a03o227 k03o227 a04o227 k04o227 a1o227 k1o227 a33o227 k33o227 a34o227 k34o227 a35o227 k35o227 a36o227 k36o227).toArray 118 (0, 0)), (b43, .cells (shfV s2 a006u k006u a03u k03u a04u k04u a1u k1u a33u k33u a34u k34u a35u k35u a36u k36u).toArray 118 (0, 0)), (b21, .cells (objV (objOf xs n) a6q14 k6q14).toArray 102 (0, 0))] H 0 rfl rfl ?_
              intro w233 hch232 H
              have hS234 := hS.sto hch232 (.inl hnb231)
              refine ⟨hS234, ?_⟩
              have hS := hS234
              refine RH.fin hS 2 [0, 1, 2, 4, 11, 14, 16, 19, 25, 27, 29] [(0, .slice a xs.length c), (1, .I k), (2, .I n), (4, .I la), (11, .P b21 0), (14, .slice na (toL n n).length nc), (16, .P b43 0), (19, .slice pa pu.length pc), (25, .I y), (27, .P b229 0), (29, .I s220.done)] (by as_aux_lemma => kernel_rfl) ?_
              have H := H.pick [0, 1, 2, 3, 4, 5, 6, 7, 20, 21, 22, 23, 24, 25, 26, 27, 28, 29, 30, 31] rfl
              exact hJ139 (b229, s220, a006o227, k006o227, a03o227, k03o227, a04o227, k04o227, a1o227, k1o227, a33o227, k33o227, a34o227, k34o227, a35o227, k35o227, a36o227, k36o227) _ ⟨H, hlaw222, by unfold shB wrB rdB; omega, trivial⟩
             ·
              refine RG.leaf' [(17, .seq), (12, .seq), (13, .qui), (14, .qui), (15, .qui), (16, .qui), (18, .seq), (19, .qui), (20, .qui)] (by as_aux_lemma => kernel_rfl) ?_
              have Hr := H
              refine RH.chn hS ?_
              refine RW.newC (κ := .chn) (d := some 27) (r := []) (o := .cells (shfZ).toArray 118 (0, 0)) (v := fun b => .P b 0) (fun b => by as_aux_lemma => kernel_rfl) (nofun) H ?_
              intro b236 w237 hnw235 H
              have hnb238 := Nat.le_trans hS.size hnw235
              intro hS
              refine RH.chn hS ?_
              refine qK .chn (some 176) [] 54 #[.agg (shfV s2 a006u k006u a03u k03u a04u k04u a1u k1u a33u k33u a34u k34u a35u k35u a36u k36u).toArray, .agg #[.I 10, .I ((prepOf (mW xs k n) (tAt q1 n y)).to), .I 0, .int .u64 0, .int .u64 0, .int .u64 0, .int .u64 0, .int .u64 0, .bool true, .bool false, .slice none 0 0, .slice none 0 0, .slice none 0 0, .int .u64 ((((prepOf (mW xs k n) (tAt q1 n y)).head).id).version), .I ((((prepOf (mW xs k n) (tAt q1 n y)).head).id).index), .int .u64 ((((prepOf (mW xs k n) (tAt q1 n y)).head).id).epoch), .I (((prepOf (mW xs k n) (tAt q1 n y)).head).kk), .I (((prepOf (mW xs k n) (tAt q1 n y)).head).nn), .I (((prepOf (mW xs k n) (tAt q1 n y)).head).size), .int .u32 (((((prepOf (mW xs k n) (tAt q1 n y)).head).sum).toNat : Nat) : Int), .slice none 0 0, .int .u64 0, .int .u64 0, .I 0, .string (⟨#[]⟩), .I 0, .slice none 0 0]] (mgot_ready (s := s2) (shf_mk (y0 := s2.read) (y3 := s2.write) (rd_mkB (by unfold rdB; omega) (H.rp 12 rfl) (H.rp 13 rfl) (H.rp 14 rfl)) (H.rp 15 rfl) u64a (wr_mkV u64a u64a ⟨rfl, hsuw⟩ (H.rp 16 rfl) (H.rp 17 rfl) (H.rp 18 rfl) (H.rp 19 rfl) i64a i64a i64a) Shape.bool_mk i64a) (hqv2.dn.trans (if_neg (by omega))) (hqv2.ry) ((prepOf (mW xs k n) (tAt q1 n y)).to) ((prepOf (mW xs k n) (tAt q1 n y)).head) true (.I 0) (.int .u64 0) (.int .u64 0) (.int .u64 0) (.int .u64 0) (.int .u64 0) (.bool false) (.slice none 0 0) (.slice none 0 0) (.slice none 0 0) (.slice none 0 0) (.int .u64 0) (.int .u64 0) (.I 0) (.string (⟨#[]⟩)) (.I 0) (.slice none 0 0) (by rw [hqv2.hl hkn]; omega) (hqv2.e hkn (by omega) (fun j _ => tAt_lt (by omega)) (tAt_inj (by omega) (by omega)) (mprep_to htl2) (mprep_head hkn htl2))) ?_
              rintro _ w240 hE242 ⟨cs241, W248, e249, rfl, hr243, hl250⟩
              have H0s := H
              obtain ⟨s244, hs245⟩ : ∃ s_ : Shf, s_ = { s2 with write := W248, done := e249 } := ⟨_, rfl⟩
              rw [← hs245] at hr243
              have hlaw246 : s244 = mwriteR s2 ((prepOf (mW xs k n) (tAt q1 n y)).to) ((prepOf (mW xs k n) (tAt q1 n y)).head) true := hs245.trans (mwriteR_eq hl250)
              rw [show e249 = s244.done by rw [hs245]]
              obtain ⟨a006o251, k006o251, a03o251, k03o251, a04o251, k04o251, a1o251, k1o251, a33o251, k33o251, a34o251, k34o251, a35o251, k35o251, a36o251, k36o251, rfl, hBo251, H⟩ := addShf H hE242 hr243
              unfold shB wrB rdB at hBo251
              have hso251 := hBo251.1.1
              have hso251w := hBo251.2.2.1.1
              intro hS
              refine qHP hS 4 [(18, .seq), (19, .qui), (20, .qui)] [(0, .slice a xs.length c), (1, .I k), (2, .I n), (4, .I la), (11, .P b21 0), (14, .slice na (toL n n).length nc), (16, .P b43 0), (19, .slice pa pu.length pc), (25, .I y), (27, .P b236 0), (177, .agg (shfV s244 a006o251 k006o251 a03o251 k03o251 a04o251 k04o251 a1o251 k1o251 a33o251 k33o251 a34o251 k34o251 a35o251 k35o251 a36o251 k36o251).toArray), (178, .slice none 0 0), (179, .I s244.done)] ?_
              refine RH.sto ?_
              refine qWC 118 b236 0 [] (.agg (shfV s244 a006o251 k006o251 a03o251 k03o251 a04o251 k04o251 a1o251 k1o251 a33o251 k33o251 a34o251 k34o251 a35o251 k35o251 a36o251 k36o251).toArray) [(b236, .cells (shfV s244 a006o251 k006o251 a03o251 k03o251 a04o251 k04o251 a1o251 k1o251 a33o251 k33o251 a34o251 k34o251 a35o251 k35o251 a36o251 k36o251).toArray 118 (0, 0)), (b43, .cells (shfV s2 a006u k006u a03u k03u a04u k04u a1u k1u a33u k33u a34u k34u a35u k35u a36u k36u).toArray 118 (0, 0)), (b21, .cells (objV (objOf xs n) a6q14 k6q14).toArray 102 (0, 0))] H 0 rfl rfl ?_
              intro w253 hch252 H
              have hS254 := hS.sto hch252 (.inl hnb238)
              refine ⟨hS254, ?_⟩
              have hS := hS254
              refine RH.fin hS 2 [0, 1, 2, 4, 11, 14, 16, 19, 25, 27, 29] [(0, .slice a xs.length c), (1, .I k), (2, .I n), (4, .I la), (11, .P b21 0), (14, .slice na (toL n n).length nc), (16, .P b43 0), (19, .slice pa pu.length pc), (25, .I y), (27, .P b236 0), (29, .I s244.done)] (by as_aux_lemma => kernel_rfl) ?_
              have H := H.pick [0, 1, 2, 3, 4, 5, 6, 7, 20, 21, 22, 23, 24, 25, 26, 27, 28, 29, 30, 31] rfl
              exact hJ139 (b236, s244, a006o251, k006o251, a03o251, k03o251, a04o251, k04o251, a1o251, k1o251, a33o251, k33o251, a34o251, k34o251, a35o251, k35o251, a36o251, k36o251) _ ⟨H, hlaw246, by unfold shB wrB rdB; omega, trivial⟩
            ·
             rintro ⟨bp, sp, a006p, k006p, a03p, k03p, a04p, k04p, a1p, k1p, a33p, k33p, a34p, k34p, a35p, k35p, a36p, k36p⟩ w140 ⟨H, hip⟩
             obtain ⟨hlp, hBsp, hxp⟩ := hip
             have hBp := hBsp
             unfold shB wrB rdB at hBp
             have hsp := hBp.1.1
             have hspw := hBp.2.2.1.1
             have hqv3 : Qv xs k n (tAt q1 n) sp (y + 1) := hqv2.step hkn (by omega) (fun j _ => tAt_lt (by omega)) (tAt_inj (by omega) (by omega)) (mprep_to htl2) (mprep_head hkn htl2) hlp
             refine qR 2 [.c [10, 0, 1, 0, 0, 1, 0, 0, 2, 0, 0], .c [10, 0, 1, 0, 0, 1, 0, 0, 2, 0, 1], .c [10, 0, 1, 0, 0, 1, 0, 0, 3], .b 5, .c [10, 0, 1, 0, 0, 2], .l [10, 0, 1, 0, 0], .b 4, .c [11]] [(0, .slice a xs.length c), (1, .I k), (2, .I n), (4, .I la), (11, .P b21 0), (14, .slice na (toL n n).length nc), (16, .P b43 0), (19, .slice pa pu.length pc), (25, .I y), (27, .P bp 0), (29, .I sp.done)] ?_
             refine qG (sq 0 7) ?_
             refine qP 4 (sq 4 7) [(0, .slice a xs.length c), (1, .I k), (2, .I n), (4, .I la), (11, .P b21 0), (14, .slice na (toL n n).length nc), (16, .P b43 0), (19, .slice pa pu.length pc), (25, .I y), (27, .P bp 0), (181, .bool (sp.done == 1)), (182, .I y), (183, .I n)] ?_
             refine qI .seq 184 (sq 5 7) ((n : Int) - 1) ?_
             refine qF 2 [(0, .slice a xs.length c), (1, .I k), (2, .I n), (4, .I la), (11, .P b21 0), (14, .slice na (toL n n).length nc), (16, .P b43 0), (19, .slice pa pu.length pc), (25, .I y), (27, .P bp 0), (186, .bool (!((sp.done == 1) == ((y : Int) == ((n : Int) - 1)))))] ?_
             refine qC (!((sp.done == 1) == ((y : Int) == ((n : Int) - 1)))) (fun h255 => ?_) (fun h255 => ?_)
             ·
              replace h255 : (((sp.done == 1) == ((y : Int) == ((n : Int) - 1)))) = false := by revert h255; cases (((sp.done == 1) == ((y : Int) == ((n : Int) - 1)))) <;> simp
              replace h255 := ne_of_beq_false h255
              exact absurd (moves_w hqv3.dn) h255
             ·
              replace h255 : (((sp.done == 1) == ((y : Int) == ((n : Int) - 1)))) = true := by revert h255; cases (((sp.done == 1) == ((y : Int) == ((n : Int) - 1)))) <;> simp
              replace h255 := eq_of_beq h255
              refine qR 1 [.c [10, 0, 1, 0, 0, 1, 0, 0, 3], .b 5, .c [10, 0, 1, 0, 0, 2], .l [10, 0, 1, 0, 0], .b 4, .c [11]] [(0, .slice a xs.length c), (1, .I k), (2, .I n), (4, .I la), (11, .P b21 0), (14, .slice na (toL n n).length nc), (16, .P b43 0), (19, .slice pa pu.length pc), (25, .I y), (27, .P bp 0)] ?_
              refine qG (sq 0 2) ?_
              refine qL .seq 187 (sq 1 2) 118 bp 0 0 (.agg (shfV sp a006p k006p a03p k03p a04p k04p a1p k1p a33p k33p a34p k34p a35p k35p a36p k36p).toArray) (H.cells 0 rfl) ?_
              refine qW 118 b43 0 (sq 2 2) (.agg (shfV sp a006p k006p a03p k03p a04p k04p a1p k1p a33p k33p a34p k34p a35p k35p a36p k36p).toArray) [(bp, .cells (shfV sp a006p k006p a03p k03p a04p k04p a1p k1p a33p k33p a34p k34p a35p k35p a36p k36p).toArray 118 (0, 0)), (b43, .cells (shfV sp a006p k006p a03p k03p a04p k04p a1p k1p a33p k33p a34p k34p a35p k35p a36p k36p).toArray 118 (0, 0)), (b21, .cells (objV (objOf xs n) a6q14 k6q14).toArray 102 (0, 0))] H 1 rfl rfl ?_
              intro w256 H
              refine qF 0 [(0, .slice a xs.length c), (1, .I k), (2, .I n), (4, .I la), (11, .P b21 0), (14, .slice na (toL n n).length nc), (16, .P b43 0), (19, .slice pa pu.length pc), (25, .I y)] ?_
              refine qR 1 [.c [10, 0, 1, 0, 0, 2], .l [10, 0, 1, 0, 0], .b 4, .c [11]] [(0, .slice a xs.length c), (1, .I k), (2, .I n), (4, .I la), (11, .P b21 0), (14, .slice na (toL n n).length nc), (16, .P b43 0), (19, .slice pa pu.length pc), (25, .I y)] ?_
              refine qG (sq 0 3) ?_
              refine qP 1 (sq 1 3) [(0, .slice a xs.length c), (1, .I k), (2, .I n), (4, .I la), (11, .P b21 0), (14, .slice na (toL n n).length nc), (16, .P b43 0), (19, .slice pa pu.length pc), (25, .I y), (154, .I y)] ?_
              refine qI .seq 155 (sq 2 3) ((y : Int) + 1) ?_
              refine qF 1 [(0, .slice a xs.length c), (1, .I k), (2, .I n), (4, .I la), (11, .P b21 0), (14, .slice na (toL n n).length nc), (16, .P b43 0), (19, .slice pa pu.length pc), (25, .I ((y : Int) + 1))] ?_
              have H := H.pick [0, 1, 2, 3, 4, 5, 6, 7, 16, 17, 18, 19] rfl
              have H := H.frontM 2 (M' := [(b21, .cells (objV (objOf xs n) a6q14 k6q14).toArray 102 (0, 0)), (bp, .cells (shfV sp a006p k006p a03p k03p a04p k04p a1p k1p a33p k33p a34p k34p a35p k35p a36p k36p).toArray 118 (0, 0)), (b43, .cells (shfV sp a006p k006p a03p k03p a04p k04p a1p k1p a33p k33p a34p k34p a35p k35p a36p k36p).toArray 118 (0, 0))]) rfl
              have H := H.frontM 2 (M' := [(b43, .cells (shfV sp a006p k006p a03p k03p a04p k04p a1p k1p a33p k33p a34p k34p a35p k35p a36p k36p).toArray 118 (0, 0)), (b21, .cells (objV (objOf xs n) a6q14 k6q14).toArray 102 (0, 0)), (bp, .cells (shfV sp a006p k006p a03p k03p a04p k04p a1p k1p a33p k33p a34p k34p a35p k35p a36p k36p).toArray 118 (0, 0))]) rfl
              have H := H.drop (M' := [(b43, .cells (shfV sp a006p k006p a03p k03p a04p k04p a1p k1p a33p k33p a34p k34p a35p k35p a36p k36p).toArray 118 (0, 0)), (b21, .cells (objV (objOf xs n) a6q14 k6q14).toArray 102 (0, 0))]) (W' := []) (by repeat (first | exact List.Sublist.refl _ | apply List.Sublist.cons_cons | apply List.Sublist.cons)) (by repeat (first | exact List.Sublist.refl _ | apply List.Sublist.cons_cons | apply List.Sublist.cons))
              exact WK.back (hback136 (y + 1, sp, a006p, k006p, a03p, k03p, a04p, k04p, a1p, k1p, a33p, k33p, a34p, k34p, a35p, k35p, a36p, k36p) _ ⟨H, by omega, hBsp, hqv3⟩ (by simp only []; omega)) (by as_aux_lemma => kernel_rfl)
           ·
            refine qR 2 [.c [11, 0], .c [12]] [(0, .slice a xs.length c), (1, .I k), (2, .I n), (11, .P b21 0), (14, .slice na (toL n n).length nc), (19, .slice pa pu.length pc)] ?_
            refine qG (sq 0 2) ?_
            refine qP 1 (sq 1 2) [(0, .slice a xs.length c), (1, .I k), (2, .I n), (11, .P b21 0), (14, .slice na (toL n n).length nc), (19, .slice pa pu.length pc), (188, .P b21 5)] ?_
            refine qW 22 b21 5 (sq 2 2) (.int .u64 3) [(b43, .cells (shfV s2 a006u k006u a03u k03u a04u k04u a1u k1u a33u k33u a34u k34u a35u k35u a36u k36u).toArray 118 (0, 0)), (b21, .cells #[.string ((objOf xs n).key), .int .u64 ((objOf xs n).version), .I ((objOf xs n).size), .int .u32 ((((objOf xs n).sum).toNat : Nat) : Int), .I ((objOf xs n).group), .int .u64 3, .slice a6q14 ((objOf xs n).nodes.length) k6q14] 102 (0, 0))] H 1 rfl rfl ?_
            intro w257 H
            refine qF 0 [(0, .slice a xs.length c), (1, .I k), (2, .I n), (11, .P b21 0), (14, .slice na (toL n n).length nc), (19, .slice pa pu.length pc)] ?_
            refine qR 1 [.c [12, 0], .c [13]] [(0, .slice a xs.length c), (1, .I k), (2, .I n), (11, .P b21 0), (14, .slice na (toL n n).length nc), (19, .slice pa pu.length pc)] ?_
            refine qG (sq 0 3) ?_
            refine qP 2 (sq 2 3) [(0, .slice a xs.length c), (1, .I k), (2, .I n), (11, .P b21 0), (14, .slice na (toL n n).length nc), (19, .slice pa pu.length pc), (189, .slice na (toL n n).length nc), (190, .P b21 6)] ?_
            refine qW 25 b21 6 (sq 3 3) (.slice na (toL n n).length nc) [(b43, .cells (shfV s2 a006u k006u a03u k03u a04u k04u a1u k1u a33u k33u a34u k34u a35u k35u a36u k36u).toArray 118 (0, 0)), (b21, .cells #[.string ((objOf xs n).key), .int .u64 ((objOf xs n).version), .I ((objOf xs n).size), .int .u32 ((((objOf xs n).sum).toNat : Nat) : Int), .I ((objOf xs n).group), .int .u64 3, .slice na (toL n n).length nc] 102 (0, 0))] H 1 rfl rfl ?_
            intro w258 H
            refine qF 0 [(0, .slice a xs.length c), (1, .I k), (2, .I n), (11, .P b21 0), (14, .slice na (toL n n).length nc), (19, .slice pa pu.length pc)] ?_
            refine qR 1 [.c [13, 0], .c [14]] [(0, .slice a xs.length c), (1, .I k), (2, .I n), (11, .P b21 0), (14, .slice na (toL n n).length nc), (19, .slice pa pu.length pc)] ?_
            refine qG (sq 0 12) ?_
            refine qL .seq 192 (sq 1 12) 102 b21 0 0 (.agg #[.string ((objOf xs n).key), .int .u64 ((objOf xs n).version), .I ((objOf xs n).size), .int .u32 ((((objOf xs n).sum).toNat : Nat) : Int), .I ((objOf xs n).group), .int .u64 3, .slice na (toL n n).length nc]) (H.cells 1 rfl) ?_
            refine qP 2 (sq 3 12) [(0, .slice a xs.length c), (2, .I n), (14, .slice na (toL n n).length nc), (19, .slice pa pu.length pc), (192, .agg #[.string ((objOf xs n).key), .int .u64 ((objOf xs n).version), .I ((objOf xs n).size), .int .u32 ((((objOf xs n).sum).toNat : Nat) : Int), .I ((objOf xs n).group), .int .u64 3, .slice na (toL n n).length nc]), (193, .I k), (194, .I n)] ?_
            refine qK .seq (some 195) (sq 4 12) 47 #[.agg #[.string ((objOf xs n).key), .int .u64 ((objOf xs n).version), .I ((objOf xs n).size), .int .u32 ((((objOf xs n).sum).toNat : Nat) : Int), .I ((objOf xs n).group), .int .u64 3, .slice na (toL n n).length nc], .I k, .I n, .I 100] (fbegin_ok (O := ⟨(objOf xs n).key, (objOf xs n).version, (objOf xs n).size, (objOf xs n).sum, (objOf xs n).group, 3, toL n n⟩) (obj_mk (y0 := (objOf xs n).key) (y1 := (objOf xs n).version) (y2 := (objOf xs n).size) (y3 := (objOf xs n).sum) (y4 := (objOf xs n).group) (y5 := 3) (y6 := toL n n) ⟨rfl, by first | assumption | (simp [maxLen]; done) | decide⟩ u64a i64a Shape.bv_mk i64a (Shape.int_mk (by decide)) (H.rp 9 rfl)) (k : Int) (n : Int) 100 (okB_begin2 hk hkn (by omega) (by omega))) ?_
            rintro _ w259 hE260 ⟨cs261, a262, c263, rfl, hr264, hr265⟩
            have H0s := H
            replace hr264 : rdS.rep _ _ cs261 (beginR (objTo xs n) (k : Int) (n : Int) 100) := hr264
            replace hr265 : (Shape.slice msgS).rep _ _ [.slice a262 (asksR (beginR (objTo xs n) (k : Int) (n : Int) 100)).length c263] (asksR (beginR (objTo xs n) (k : Int) (n : Int) 100)) := hr265
            rw [show beginR (⟨(objOf xs n).key, (objOf xs n).version, (objOf xs n).size, (objOf xs n).sum, (objOf xs n).group, 3, toL n n⟩) (k : Int) (n : Int) 100 = (beginR (objTo xs n) (k : Int) (n : Int) 100) from rfl]
            obtain ⟨cs0q266, a3q266, k3q266, a4q266, k4q266, rfl, hf267, hf268, hf269, hf270, hf271, hf272, hf273, hf274⟩ := rd_open hr264
            obtain ⟨a6q275, k6q275, rfl, hf276, hf277, hf278, hf279, hf280, hf281⟩ := obj_open hf267
            have H := H.addN hE260 (F := Rp (Shape.slice msgS) [.slice a262 ((asksR (beginR (objTo xs n) (k : Int) (n : Int) 100)).length) c263] (asksR (beginR (objTo xs n) (k : Int) (n : Int) 100))) hr265
            have H := H.add (F := Rp Li [.slice a6q275 (((beginR (objTo xs n) (k : Int) (n : Int) 100).object).nodes.length) k6q275] (((beginR (objTo xs n) (k : Int) (n : Int) 100).object).nodes)) ((H0s.addN hE260 (F := Rp Li [.slice a6q275 (((beginR (objTo xs n) (k : Int) (n : Int) 100).object).nodes.length) k6q275] (((beginR (objTo xs n) (k : Int) (n : Int) 100).object).nodes)) hf281).rp 0 rfl)
            have H := H.add (F := Rp (Shape.slice pcS) [.slice a3q266 ((beginR (objTo xs n) (k : Int) (n : Int) 100).pieces.length) k3q266] ((beginR (objTo xs n) (k : Int) (n : Int) 100).pieces)) ((H0s.addN hE260 (F := Rp (Shape.slice pcS) [.slice a3q266 ((beginR (objTo xs n) (k : Int) (n : Int) 100).pieces.length) k3q266] ((beginR (objTo xs n) (k : Int) (n : Int) 100).pieces)) hf270).rp 0 rfl)
            have H := H.add (F := Rp Li [.slice a4q266 ((beginR (objTo xs n) (k : Int) (n : Int) 100).bad.length) k4q266] ((beginR (objTo xs n) (k : Int) (n : Int) 100).bad)) ((H0s.addN hE260 (F := Rp Li [.slice a4q266 ((beginR (objTo xs n) (k : Int) (n : Int) 100).bad.length) k4q266] ((beginR (objTo xs n) (k : Int) (n : Int) 100).bad)) hf271).rp 0 rfl)
            refine qP 4 (sq 8 12) [(0, .slice a xs.length c), (2, .I n), (14, .slice na (toL n n).length nc), (19, .slice pa pu.length pc), (196, .agg (rdV (beginR (objTo xs n) (k : Int) (n : Int) 100) a6q275 k6q275 a3q266 k3q266 a4q266 k4q266).toArray), (197, .slice a262 ((asksR (beginR (objTo xs n) (k : Int) (n : Int) 100)).length) c263), (198, .I 0)] ?_
            refine qB .seq 30 (sq 9 12) ((rdZ).toArray) 107 H ?_
            intro b282 w283 H
            refine qW 107 b282 0 (sq 10 12) (.agg (rdV (beginR (objTo xs n) (k : Int) (n : Int) 100) a6q275 k6q275 a3q266 k3q266 a4q266 k4q266).toArray) [(b282, .cells (rdV (beginR (objTo xs n) (k : Int) (n : Int) 100) a6q275 k6q275 a3q266 k3q266 a4q266 k4q266).toArray 107 (0, 0)), (b43, .cells (shfV s2 a006u k006u a03u k03u a04u k04u a1u k1u a33u k33u a34u k34u a35u k35u a36u k36u).toArray 118 (0, 0)), (b21, .cells #[.string ((objOf xs n).key), .int .u64 ((objOf xs n).version), .I ((objOf xs n).size), .int .u32 ((((objOf xs n).sum).toNat : Nat) : Int), .I ((objOf xs n).group), .int .u64 3, .slice na (toL n n).length nc] 102 (0, 0))] H 0 rfl rfl ?_
            intro w284 H
            refine qF 2 [(0, .slice a xs.length c), (2, .I n), (14, .slice na (toL n n).length nc), (19, .slice pa pu.length pc), (30, .P b282 0), (32, .I 0)] ?_
            refine qR 7 [.c [15, 0, 0], .c [15, 0, 1], .c [16]] [(0, .slice a xs.length c), (2, .I n), (14, .slice na (toL n n).length nc), (19, .slice pa pu.length pc), (30, .P b282 0)] ?_
            refine qG (sq 0 3) ?_
            refine qP 1 (sq 1 3) [(0, .slice a xs.length c), (14, .slice na (toL n n).length nc), (19, .slice pa pu.length pc), (30, .P b282 0), (201, .I n)] ?_
            refine qI .seq 202 (sq 2 3) ((n : Int) - 1) ?_
            refine qF 1 [(0, .slice a xs.length c), (14, .slice na (toL n n).length nc), (19, .slice pa pu.length pc), (30, .P b282 0), (33, .I ((n : Int) - 1))] ?_
            refine qR 1 [.c [15, 0, 1, 0], .b 6, .c [16]] [(0, .slice a xs.length c), (14, .slice na (toL n n).length nc), (19, .slice pa pu.length pc), (30, .P b282 0), (33, .I ((n : Int) - 1))] ?_
            have H := H.pick [2, 1, 0, 12, 13, 14, 15] rfl
            have H := H.drop (M' := [(b282, .cells (rdV (beginR (objTo xs n) (k : Int) (n : Int) 100) a6q275 k6q275 a3q266 k3q266 a4q266 k4q266).toArray 107 (0, 0))]) (W' := []) (by repeat (first | exact List.Sublist.refl _ | exact List.nil_sublist _ | apply List.Sublist.cons_cons | apply List.Sublist.cons)) (by repeat (first | exact List.Sublist.refl _ | exact List.nil_sublist _ | apply List.Sublist.cons_cons | apply List.Sublist.cons))
            refine WK.loop (α := Nat × Rd × Option Addr × Nat × Option Addr × Nat × Option Addr × Nat) (b := cd Try.prog 16 [15, 0, 1, 0, 0]) (by as_aux_lemma => kernel_rfl) (fun st_ => match st_ with | (x, D, a06v, k06v, a3v, k3v, a4v, k4v) => [(0, .slice a xs.length c), (14, .slice na (toL n n).length nc), (19, .slice pa pu.length pc), (30, .P b282 0), (33, .I ((n : Int) - 1 - (x : Int)))]) (fun st_ w' => match st_ with | (x, D, a06v, k06v, a3v, k3v, a4v, k4v) => Hp w S [] [(b282, .cells (rdV D a06v k06v a3v k3v a4v k4v).toArray 107 (0, 0))] [] [Rp Li [.slice a06v D.object.nodes.length k06v] D.object.nodes, Rp (Shape.slice pcS) [.slice a3v D.pieces.length k3v] D.pieces, Rp Li [.slice a4v D.bad.length k4v] D.bad, Rp (Shape.slice msgS) [.slice pa pu.length pc] pu, Rp Li [.slice na (toL n n).length nc] (toL n n), Rp (Shape.slice chkS) [.slice a9 (chksOf xs k n).length c10] (chksOf xs k n), Rp SB [.slice a xs.length c] xs] w' ∧ x ≤ n ∧ Tv xs k n D x ∧ rdB D) (fun st_ => match st_ with | (x, D, a06v, k06v, a3v, k3v, a4v, k4v) => n - x) (0, beginR (objTo xs n) (k : Int) (n : Int) 100, a6q275, k6q275, a3q266, k3q266, a4q266, k4q266) ⟨H, by omega, ⟨by rw [Nat.zero_min]; exact Ov.begin2 _ hk hkn (by omega) (by omega)⟩, rdB_begin2 hk hkn (by omega) (by omega)⟩ (by simp) ?_
            rintro ⟨x, D, a06v, k06v, a3v, k3v, a4v, k4v⟩ w286 ⟨H, hinv3⟩ hback285
            obtain ⟨hx1, htv, hBd⟩ := hinv3
            have hBv := hBd
            unfold rdB at hBv
            have hsv := hBv.1
            refine qR 3 [.c [15, 0, 1, 0, 0, 0, 1], .c [15, 0, 1, 0, 0, 1], .l [15, 0, 1, 0, 0], .b 6, .c [16]] [(0, .slice a xs.length c), (14, .slice na (toL n n).length nc), (19, .slice pa pu.length pc), (30, .P b282 0), (33, .I ((n : Int) - 1 - (x : Int))), (204, .bool (decide (((n : Int) - 1 - (x : Int) : Int) ≥ 0)))] ?_
            refine qD (((n : Int) - 1 - (x : Int) : Int) ≥ 0) (fun h287 => ?_) (fun h287 => ?_)
            ·
             have hdl : dAt n x < n := by unfold dAt; omega
             have hrl := row_len (xs := xs) hkn hdl
             refine qR 5 [.c [15, 0, 1, 0, 0, 1, 0, 0, 0, 0], .c [15, 0, 1, 0, 0, 1, 0, 0, 0, 1], .c [15, 0, 1, 0, 0, 1, 0, 0, 1], .b 7, .c [15, 0, 1, 0, 0, 2], .l [15, 0, 1, 0, 0], .b 6, .c [16]] [(0, .slice a xs.length c), (14, .slice na (toL n n).length nc), (19, .slice pa pu.length pc), (30, .P b282 0), (33, .I ((n : Int) - 1 - (x : Int)))] ?_
             refine WK.draw1 10 (qs [0, 1, 2, 3, 4, 5, 6, 7, 8, 9]) (qs [0, 1, 2, 3, 4, 5, 6, 7, 8, 9]) Try_mixed (by as_aux_lemma => kernel_rfl) (by as_aux_lemma => kernel_rfl) (by as_aux_lemma => kernel_rfl) ?_
             have H := H.draw
             generalize ({ w286 with drawn := w286.drawn + 1 } : World) = w288 at H ⊢
             refine qP 2 (qs [2, 3, 4, 5, 6, 7, 8, 9]) [(0, .slice a xs.length c), (14, .slice na (toL n n).length nc), (19, .slice pa pu.length pc), (30, .P b282 0), (33, .I ((n : Int) - 1 - (x : Int))), (207, .slice pa pu.length pc), (208, .I ((n : Int) - 1 - (x : Int)))] ?_
             have hx289 : (dAt n x) < pu.length := by rw [hpu, mmsgs_len hkn]; exact hdl
             refine qX .qui 209 (qs [3, 4, 5, 6, 7, 8, 9]) 33 57 ((n : Int) - 1 - (x : Int)) msgS (prepOf (mW xs k n) (dAt n x)) H 3 rfl (dAt n x) (by unfold dAt; omega) (by rw [hpu]; exact mmsgs_all hkn hdl) ?_
             intro b290 o291 es292 hr293 H
             obtain ⟨a10q294, k10q294, cs11q294, cs12q294, a13q294, k13q294, a19q294, k19q294, rfl, hf295, hf296, hf297, hf298, hf299, hf300, hf301, hf302, hf303, hf304, hf305, hf306, hf307, hf308, hf309, hf310, hf311, hf312⟩ := msg_open hr293
             obtain ⟨a0q313, k0q313, a1q313, k1q313, rfl, hf314, hf315⟩ := conf_open hf304
             obtain ⟨cs0q316, rfl, hf317, hf318, hf319, hf320⟩ := hdr_open hf305
             obtain ⟨rfl, hf322, hf323, hf324⟩ := cid_open hf317
             have H := H.add (F := Rp (Shape.slice entS) [.slice a10q294 ((prepOf (mW xs k n) (dAt n x)).entries.length) k10q294] ((prepOf (mW xs k n) (dAt n x)).entries)) hf303
             have H := H.add (F := Rp Li [.slice a0q313 (((prepOf (mW xs k n) (dAt n x)).conf).voters.length) k0q313] (((prepOf (mW xs k n) (dAt n x)).conf).voters)) hf314
             have H := H.add (F := Rp Li [.slice a1q313 (((prepOf (mW xs k n) (dAt n x)).conf).learners.length) k1q313] (((prepOf (mW xs k n) (dAt n x)).conf).learners)) hf315
             have H := H.add (F := Rp SB [.slice a13q294 ((prepOf (mW xs k n) (dAt n x)).data.length) k13q294] ((prepOf (mW xs k n) (dAt n x)).data)) hf306
             have H := H.add (F := Rp (Shape.slice Shape.str) [.slice a19q294 ((prepOf (mW xs k n) (dAt n x)).names.length) k19q294] ((prepOf (mW xs k n) (dAt n x)).names)) hf312
             refine qP 1 (qs [4, 5, 6, 7, 8, 9]) [(0, .slice a xs.length c), (14, .slice na (toL n n).length nc), (19, .slice pa pu.length pc), (30, .P b282 0), (33, .I ((n : Int) - 1 - (x : Int))), (210, .pointer (some ⟨b290, o291 + 2, none⟩))] ?_
             refine qL .qui 211 (qs [5, 6, 7, 8, 9]) 3 b290 (o291 + 2) 2 (.I ((prepOf (mW xs k n) (dAt n x)).to)) (H.fc 5 rfl) ?_
             refine qP 2 (qs [7, 8, 9]) [(0, .slice a xs.length c), (14, .slice na (toL n n).length nc), (19, .slice pa pu.length pc), (30, .P b282 0), (33, .I ((n : Int) - 1 - (x : Int))), (211, .I ((prepOf (mW xs k n) (dAt n x)).to)), (212, .slice na (toL n n).length nc), (213, .I ((n : Int) - 1 - (x : Int)))] ?_
             have hx325 : (dAt n x) < (toL n n).length := by rw [toL_len]; exact hdl
             refine qX .qui 214 (qs [8, 9]) 25 3 ((n : Int) - 1 - (x : Int)) Si ((n : Int) + 1 - (((dAt n x) : Nat) : Int)) H 10 rfl (dAt n x) (by unfold dAt; omega) (toL_get hdl) ?_
             intro b326 o327 es328 hr329 H
             have hb330 := Shape.i64_bd hr329
             obtain ⟨rfl, -⟩ := hr329
             refine qL .qui 215 [(9, .qui)] 3 b326 o327 0 (.I ((n : Int) + 1 - (((dAt n x) : Nat) : Int))) (H.fc 0 rfl) ?_
             refine qF 1 [(0, .slice a xs.length c), (14, .slice na (toL n n).length nc), (19, .slice pa pu.length pc), (30, .P b282 0), (33, .I ((n : Int) - 1 - (x : Int))), (216, .bool (((prepOf (mW xs k n) (dAt n x)).to) != ((n : Int) + 1 - (((dAt n x) : Nat) : Int))))] ?_
             refine qN ((prepOf (mW xs k n) (dAt n x)).to) ((n : Int) + 1 - (((dAt n x) : Nat) : Int)) (fun h331 => ?_) (fun h331 => ?_)
             ·
              exact absurd (mprep_to hdl) h331
             ·
              refine qR 1 [.c [15, 0, 1, 0, 0, 1, 0, 0, 1], .b 7, .c [15, 0, 1, 0, 0, 2], .l [15, 0, 1, 0, 0], .b 6, .c [16]] [(0, .slice a xs.length c), (14, .slice na (toL n n).length nc), (19, .slice pa pu.length pc), (30, .P b282 0), (33, .I ((n : Int) - 1 - (x : Int)))] ?_
              refine WK.drawH1 [b282] (.leaf [(1, .qui), (2, .qui), (3, .qui), (4, .qui), (5, .qui), (6, .qui), (7, .qui), (8, .qui), (9, .qui), (10, .qui), (11, .qui), (12, .qui), (13, .qui), (14, .qui), (15, .qui), (16, .qui), (0, .seq), (17, .seq), (18, .qui), (19, .qui), (20, .qui), (21, .seq)]) Try_mixed (by as_aux_lemma => kernel_rfl) (by as_aux_lemma => kernel_rfl) ?_
              intro w332 hw333
              have H := H.draw
              rw [← hw333] at H
              clear hw333
              have hS := Chg.refl w332 [b282]
              refine RG.leaf' [(1, .qui), (2, .qui), (3, .qui), (4, .qui), (5, .qui), (6, .qui), (7, .qui), (8, .qui), (9, .qui), (10, .qui), (11, .qui), (12, .qui), (13, .qui), (14, .qui), (15, .qui), (16, .qui), (0, .seq), (17, .seq), (18, .qui), (19, .qui), (20, .qui), (21, .seq)] (by as_aux_lemma => kernel_rfl) ?_
              refine qHP hS 2 [(3, .qui), (4, .qui), (5, .qui), (6, .qui), (7, .qui), (8, .qui), (9, .qui), (10, .qui), (11, .qui), (12, .qui), (13, .qui), (14, .qui), (15, .qui), (16, .qui), (0, .seq), (17, .seq), (18, .qui), (19, .qui), (20, .qui), (21, .seq)] [(0, .slice a xs.length c), (14, .slice na (toL n n).length nc), (19, .slice pa pu.length pc), (30, .P b282 0), (33, .I ((n : Int) - 1 - (x : Int))), (219, .slice pa pu.length pc), (220, .I ((n : Int) - 1 - (x : Int)))] ?_
              have hx334 : (dAt n x) < pu.length := by rw [hpu, mmsgs_len hkn]; exact hdl
              refine RH.index (d := some 221) (r := [(4, .qui), (5, .qui), (6, .qui), (7, .qui), (8, .qui), (9, .qui), (10, .qui), (11, .qui), (12, .qui), (13, .qui), (14, .qui), (15, .qui), (16, .qui), (0, .seq), (17, .seq), (18, .qui), (19, .qui), (20, .qui), (21, .seq)]) (T := 33) (e := 57) (ik := .i64) (ix := (n : Int) - 1 - (x : Int)) (sh := msgS) (x := (prepOf (mW xs k n) (dAt n x))) (by as_aux_lemma => kernel_rfl) hS (by as_aux_lemma => kernel_rfl) H 10 rfl (dAt n x) (by unfold dAt; omega) (by rw [hpu]; exact mmsgs_all hkn hdl) ?_
              intro b335 o336 es337 hr338 H
              obtain ⟨a10q339, k10q339, cs11q339, cs12q339, a13q339, k13q339, a19q339, k19q339, rfl, hf340, hf341, hf342, hf343, hf344, hf345, hf346, hf347, hf348, hf349, hf350, hf351, hf352, hf353, hf354, hf355, hf356, hf357⟩ := msg_open hr338
              obtain ⟨a0q358, k0q358, a1q358, k1q358, rfl, hf359, hf360⟩ := conf_open hf349
              obtain ⟨cs0q361, rfl, hf362, hf363, hf364, hf365⟩ := hdr_open hf350
              obtain ⟨rfl, hf367, hf368, hf369⟩ := cid_open hf362
              have H := H.add (F := Rp (Shape.slice entS) [.slice a10q339 ((prepOf (mW xs k n) (dAt n x)).entries.length) k10q339] ((prepOf (mW xs k n) (dAt n x)).entries)) hf348
              have H := H.add (F := Rp Li [.slice a0q358 (((prepOf (mW xs k n) (dAt n x)).conf).voters.length) k0q358] (((prepOf (mW xs k n) (dAt n x)).conf).voters)) hf359
              have H := H.add (F := Rp Li [.slice a1q358 (((prepOf (mW xs k n) (dAt n x)).conf).learners.length) k1q358] (((prepOf (mW xs k n) (dAt n x)).conf).learners)) hf360
              have H := H.add (F := Rp SB [.slice a13q339 ((prepOf (mW xs k n) (dAt n x)).data.length) k13q339] ((prepOf (mW xs k n) (dAt n x)).data)) hf351
              have H := H.add (F := Rp (Shape.slice Shape.str) [.slice a19q339 ((prepOf (mW xs k n) (dAt n x)).names.length) k19q339] ((prepOf (mW xs k n) (dAt n x)).names)) hf357
              refine qHP hS 1 [(5, .qui), (6, .qui), (7, .qui), (8, .qui), (9, .qui), (10, .qui), (11, .qui), (12, .qui), (13, .qui), (14, .qui), (15, .qui), (16, .qui), (0, .seq), (17, .seq), (18, .qui), (19, .qui), (20, .qui), (21, .seq)] [(0, .slice a xs.length c), (14, .slice na (toL n n).length nc), (19, .slice pa pu.length pc), (30, .P b282 0), (33, .I ((n : Int) - 1 - (x : Int))), (222, .pointer (some ⟨b335, o336 + 2, none⟩))] ?_
              refine qHL 223 [(6, .qui), (7, .qui), (8, .qui), (9, .qui), (10, .qui), (11, .qui), (12, .qui), (13, .qui), (14, .qui), (15, .qui), (16, .qui), (0, .seq), (17, .seq), (18, .qui), (19, .qui), (20, .qui), (21, .seq)] 3 b335 (o336 + 2) 2 (.I ((prepOf (mW xs k n) (dAt n x)).to)) hS (H.fc 5 rfl) (nq1 (H.fcne 5 rfl 0 rfl)) ?_
              refine qHP hS 2 [(8, .qui), (9, .qui), (10, .qui), (11, .qui), (12, .qui), (13, .qui), (14, .qui), (15, .qui), (16, .qui), (0, .seq), (17, .seq), (18, .qui), (19, .qui), (20, .qui), (21, .seq)] [(0, .slice a xs.length c), (14, .slice na (toL n n).length nc), (19, .slice pa pu.length pc), (30, .P b282 0), (33, .I ((n : Int) - 1 - (x : Int))), (223, .I ((prepOf (mW xs k n) (dAt n x)).to)), (224, .slice pa pu.length pc), (225, .I ((n : Int) - 1 - (x : Int)))] ?_
              have hx370 : (dAt n x) < pu.length := by rw [hpu, mmsgs_len hkn]; exact hdl
              refine RH.index (d := some 226) (r := [(9, .qui), (10, .qui), (11, .qui), (12, .qui), (13, .qui), (14, .qui), (15, .qui), (16, .qui), (0, .seq), (17, .seq), (18, .qui), (19, .qui), (20, .qui), (21, .seq)]) (T := 33) (e := 57) (ik := .i64) (ix := (n : Int) - 1 - (x : Int)) (sh := msgS) (x := (prepOf (mW xs k n) (dAt n x))) (by as_aux_lemma => kernel_rfl) hS (by as_aux_lemma => kernel_rfl) H 16 rfl (dAt n x) (by unfold dAt; omega) (by rw [hpu]; exact mmsgs_all hkn hdl) ?_
              intro b371 o372 es373 hr374 H
              obtain ⟨a10q375, k10q375, cs11q375, cs12q375, a13q375, k13q375, a19q375, k19q375, rfl, hf376, hf377, hf378, hf379, hf380, hf381, hf382, hf383, hf384, hf385, hf386, hf387, hf388, hf389, hf390, hf391, hf392, hf393⟩ := msg_open hr374
              obtain ⟨a0q394, k0q394, a1q394, k1q394, rfl, hf395, hf396⟩ := conf_open hf385
              obtain ⟨cs0q397, rfl, hf398, hf399, hf400, hf401⟩ := hdr_open hf386
              obtain ⟨rfl, hf403, hf404, hf405⟩ := cid_open hf398
              have H := H.add (F := Rp (Shape.slice entS) [.slice a10q375 ((prepOf (mW xs k n) (dAt n x)).entries.length) k10q375] ((prepOf (mW xs k n) (dAt n x)).entries)) hf384
              have H := H.add (F := Rp Li [.slice a0q394 (((prepOf (mW xs k n) (dAt n x)).conf).voters.length) k0q394] (((prepOf (mW xs k n) (dAt n x)).conf).voters)) hf395
              have H := H.add (F := Rp Li [.slice a1q394 (((prepOf (mW xs k n) (dAt n x)).conf).learners.length) k1q394] (((prepOf (mW xs k n) (dAt n x)).conf).learners)) hf396
              have H := H.add (F := Rp SB [.slice a13q375 ((prepOf (mW xs k n) (dAt n x)).data.length) k13q375] ((prepOf (mW xs k n) (dAt n x)).data)) hf387
              have H := H.add (F := Rp (Shape.slice Shape.str) [.slice a19q375 ((prepOf (mW xs k n) (dAt n x)).names.length) k19q375] ((prepOf (mW xs k n) (dAt n x)).names)) hf393
              refine qHP hS 1 [(10, .qui), (11, .qui), (12, .qui), (13, .qui), (14, .qui), (15, .qui), (16, .qui), (0, .seq), (17, .seq), (18, .qui), (19, .qui), (20, .qui), (21, .seq)] [(0, .slice a xs.length c), (14, .slice na (toL n n).length nc), (19, .slice pa pu.length pc), (30, .P b282 0), (33, .I ((n : Int) - 1 - (x : Int))), (223, .I ((prepOf (mW xs k n) (dAt n x)).to)), (227, .pointer (some ⟨b371, o372 + 13, none⟩))] ?_
              refine qHL 228 [(11, .qui), (12, .qui), (13, .qui), (14, .qui), (15, .qui), (16, .qui), (0, .seq), (17, .seq), (18, .qui), (19, .qui), (20, .qui), (21, .seq)] 53 b371 (o372 + 13) 13 (.agg (hdrV ((prepOf (mW xs k n) (dAt n x)).head)).toArray) hS (H.fc 5 rfl) (nq1 (H.fcne 5 rfl 0 rfl)) ?_
              refine qHP hS 2 [(13, .qui), (14, .qui), (15, .qui), (16, .qui), (0, .seq), (17, .seq), (18, .qui), (19, .qui), (20, .qui), (21, .seq)] [(0, .slice a xs.length c), (14, .slice na (toL n n).length nc), (19, .slice pa pu.length pc), (30, .P b282 0), (33, .I ((n : Int) - 1 - (x : Int))), (223, .I ((prepOf (mW xs k n) (dAt n x)).to)), (228, .agg (hdrV ((prepOf (mW xs k n) (dAt n x)).head)).toArray), (229, .slice pa pu.length pc), (230, .I ((n : Int) - 1 - (x : Int)))] ?_
              have hx406 : (dAt n x) < pu.length := by rw [hpu, mmsgs_len hkn]; exact hdl
              refine RH.index (d := some 231) (r := [(14, .qui), (15, .qui), (16, .qui), (0, .seq), (17, .seq), (18, .qui), (19, .qui), (20, .qui), (21, .seq)]) (T := 33) (e := 57) (ik := .i64) (ix := (n : Int) - 1 - (x : Int)) (sh := msgS) (x := (prepOf (mW xs k n) (dAt n x))) (by as_aux_lemma => kernel_rfl) hS (by as_aux_lemma => kernel_rfl) H 22 rfl (dAt n x) (by unfold dAt; omega) (by rw [hpu]; exact mmsgs_all hkn hdl) ?_
              intro b407 o408 es409 hr410 H
              obtain ⟨a10q411, k10q411, cs11q411, cs12q411, a13q411, k13q411, a19q411, k19q411, rfl, hf412, hf413, hf414, hf415, hf416, hf417, hf418, hf419, hf420, hf421, hf422, hf423, hf424, hf425, hf426, hf427, hf428, hf429⟩ := msg_open hr410
              obtain ⟨a0q430, k0q430, a1q430, k1q430, rfl, hf431, hf432⟩ := conf_open hf421
              obtain ⟨cs0q433, rfl, hf434, hf435, hf436, hf437⟩ := hdr_open hf422
              obtain ⟨rfl, hf439, hf440, hf441⟩ := cid_open hf434
              have H := H.add (F := Rp (Shape.slice entS) [.slice a10q411 ((prepOf (mW xs k n) (dAt n x)).entries.length) k10q411] ((prepOf (mW xs k n) (dAt n x)).entries)) hf420
              have H := H.add (F := Rp Li [.slice a0q430 (((prepOf (mW xs k n) (dAt n x)).conf).voters.length) k0q430] (((prepOf (mW xs k n) (dAt n x)).conf).voters)) hf431
              have H := H.add (F := Rp Li [.slice a1q430 (((prepOf (mW xs k n) (dAt n x)).conf).learners.length) k1q430] (((prepOf (mW xs k n) (dAt n x)).conf).learners)) hf432
              have H := H.add (F := Rp SB [.slice a13q411 ((prepOf (mW xs k n) (dAt n x)).data.length) k13q411] ((prepOf (mW xs k n) (dAt n x)).data)) hf423
              have H := H.add (F := Rp (Shape.slice Shape.str) [.slice a19q411 ((prepOf (mW xs k n) (dAt n x)).names.length) k19q411] ((prepOf (mW xs k n) (dAt n x)).names)) hf429
              refine qHP hS 1 [(15, .qui), (16, .qui), (0, .seq), (17, .seq), (18, .qui), (19, .qui), (20, .qui), (21, .seq)] [(0, .slice a xs.length c), (14, .slice na (toL n n).length nc), (19, .slice pa pu.length pc), (30, .P b282 0), (33, .I ((n : Int) - 1 - (x : Int))), (223, .I ((prepOf (mW xs k n) (dAt n x)).to)), (228, .agg (hdrV ((prepOf (mW xs k n) (dAt n x)).head)).toArray), (232, .pointer (some ⟨b407, o408 + 20, none⟩))] ?_
              refine qHL 233 [(16, .qui), (0, .seq), (17, .seq), (18, .qui), (19, .qui), (20, .qui), (21, .seq)] 23 b407 (o408 + 20) 20 (.slice a13q411 ((prepOf (mW xs k n) (dAt n x)).data.length) k13q411) hS (H.fc 5 rfl) (nq1 (H.fcne 5 rfl 0 rfl)) ?_
              refine qHP hS 1 [(0, .seq), (17, .seq), (18, .qui), (19, .qui), (20, .qui), (21, .seq)] [(0, .slice a xs.length c), (14, .slice na (toL n n).length nc), (19, .slice pa pu.length pc), (30, .P b282 0), (33, .I ((n : Int) - 1 - (x : Int))), (234, .agg #[.I 15, .I ((prepOf (mW xs k n) (dAt n x)).to), .I 0, .int .u64 0, .int .u64 0, .int .u64 0, .int .u64 0, .int .u64 0, .bool true, .bool false, .slice none 0 0, .slice none 0 0, .slice none 0 0, .int .u64 ((((prepOf (mW xs k n) (dAt n x)).head).id).version), .I ((((prepOf (mW xs k n) (dAt n x)).head).id).index), .int .u64 ((((prepOf (mW xs k n) (dAt n x)).head).id).epoch), .I (((prepOf (mW xs k n) (dAt n x)).head).kk), .I (((prepOf (mW xs k n) (dAt n x)).head).nn), .I (((prepOf (mW xs k n) (dAt n x)).head).size), .int .u32 (((((prepOf (mW xs k n) (dAt n x)).head).sum).toNat : Nat) : Int), .slice a13q411 ((prepOf (mW xs k n) (dAt n x)).data.length) k13q411, .int .u64 0, .int .u64 0, .I 0, .string (⟨#[]⟩), .I 0, .slice none 0 0])] ?_
              have Hr := H
              refine RH.chn hS ?_
              refine qL .chn 218 [] 107 b282 0 0 (.agg (rdV D a06v k06v a3v k3v a4v k4v).toArray) (H.cells 0 rfl) ?_
              intro hS
              have Hr := H
              refine RH.chn hS ?_
              have hgo446 : ∀ i : Nat, hitR D ((prepOf (mW xs k n) (dAt n x)).to) ((prepOf (mW xs k n) (dAt n x)).head) i = true → goodR D i ((prepOf (mW xs k n) (dAt n x)).head) ((prepOf (mW xs k n) (dAt n x)).data) true → (prepOf (mW xs k n) (dAt n x)).data = rowAt (enc xs k n) i := tgood (by rw [mprep_head hkn hdl]; rfl) (mprep_data hkn hdl)
              refine qK .chn (some 235) [] 48 #[.agg (rdV D a06v k06v a3v k3v a4v k4v).toArray, .agg #[.I 15, .I ((prepOf (mW xs k n) (dAt n x)).to), .I 0, .int .u64 0, .int .u64 0, .int .u64 0, .int .u64 0, .int .u64 0, .bool true, .bool false, .slice none 0 0, .slice none 0 0, .slice none 0 0, .int .u64 ((((prepOf (mW xs k n) (dAt n x)).head).id).version), .I ((((prepOf (mW xs k n) (dAt n x)).head).id).index), .int .u64 ((((prepOf (mW xs k n) (dAt n x)).head).id).epoch), .I (((prepOf (mW xs k n) (dAt n x)).head).kk), .I (((prepOf (mW xs k n) (dAt n x)).head).nn), .I (((prepOf (mW xs k n) (dAt n x)).head).size), .int .u32 (((((prepOf (mW xs k n) (dAt n x)).head).sum).toNat : Nat) : Int), .slice a13q411 ((prepOf (mW xs k n) (dAt n x)).data.length) k13q411, .int .u64 0, .int .u64 0, .I 0, .string (⟨#[]⟩), .I 0, .slice none 0 0]] (fgot_spec (r := D) (rd_mkB (by unfold rdB; omega) (H.rp 25 rfl) (H.rp 26 rfl) (H.rp 27 rfl)) (htv.ov.of) ((prepOf (mW xs k n) (dAt n x)).to) ((prepOf (mW xs k n) (dAt n x)).head) true (dt := (prepOf (mW xs k n) (dAt n x)).data) (H.rp 1 rfl) (.I 0) (.int .u64 0) (.int .u64 0) (.int .u64 0) (.int .u64 0) (.int .u64 0) (.bool false) (.slice none 0 0) (.slice none 0 0) (.slice none 0 0) (.int .u64 0) (.int .u64 0) (.I 0) (.string (⟨#[]⟩)) (.I 0) (.slice none 0 0) (by rw [htv.ov.bad]; decide) (by rw [mprep_data hkn hdl]; omega) hgo446) ?_
              rintro _ w444 hE445 ⟨cs447, D448, rfl, hr449, hlaw450⟩
              have H0s := H
              obtain ⟨cs0q451, a3q451, k3q451, a4q451, k4q451, rfl, hf452, hf453, hf454, hf455, hf456, hf457, hf458, hf459⟩ := rd_open hr449
              obtain ⟨a6q460, k6q460, rfl, hf461, hf462, hf463, hf464, hf465, hf466⟩ := obj_open hf452
              have H := H.addN hE445 (F := Rp Li [.slice a6q460 D448.object.nodes.length k6q460] D448.object.nodes) hf466
              have H := H.add (F := Rp (Shape.slice pcS) [.slice a3q451 D448.pieces.length k3q451] D448.pieces) ((H0s.addN hE445 (F := Rp (Shape.slice pcS) [.slice a3q451 D448.pieces.length k3q451] D448.pieces) hf455).rp 0 rfl)
              have H := H.add (F := Rp Li [.slice a4q451 D448.bad.length k4q451] D448.bad) ((H0s.addN hE445 (F := Rp Li [.slice a4q451 D448.bad.length k4q451] D448.bad) hf456).rp 0 rfl)
              have hRD448 : RdOf xs k n D448 := hlaw450 ▸ RdOf.got (htv.ov.of) hgo446
              have hBD448 : D448.bad.length ≤ D.bad.length + 1 := hlaw450 ▸ got_bad_le
              intro hS
              refine qHP hS 3 [(21, .seq)] [(0, .slice a xs.length c), (14, .slice na (toL n n).length nc), (19, .slice pa pu.length pc), (30, .P b282 0), (33, .I ((n : Int) - 1 - (x : Int))), (236, .agg (rdV D448 a6q460 k6q460 a3q451 k3q451 a4q451 k4q451).toArray)] ?_
              refine RH.sto ?_
              refine qWC 107 b282 0 [] (.agg (rdV D448 a6q460 k6q460 a3q451 k3q451 a4q451 k4q451).toArray) [(b282, .cells (rdV D448 a6q460 k6q460 a3q451 k3q451 a4q451 k4q451).toArray 107 (0, 0))] H 0 rfl rfl ?_
              intro w468 hch467 H
              have hS469 := hS.sto hch467 (.inr (by simp))
              refine ⟨hS469, ?_⟩
              have hS := hS469
              refine RH.fin hS 0 [0, 14, 19, 30, 33] [(0, .slice a xs.length c), (14, .slice na (toL n n).length nc), (19, .slice pa pu.length pc), (30, .P b282 0), (33, .I ((n : Int) - 1 - (x : Int)))] (by as_aux_lemma => kernel_rfl) ?_
              refine qR 1 [.c [15, 0, 1, 0, 0, 2], .l [15, 0, 1, 0, 0], .b 6, .c [16]] [(0, .slice a xs.length c), (14, .slice na (toL n n).length nc), (19, .slice pa pu.length pc), (30, .P b282 0), (33, .I ((n : Int) - 1 - (x : Int)))] ?_
              refine qG (sq 0 3) ?_
              refine qP 1 (sq 1 3) [(0, .slice a xs.length c), (14, .slice na (toL n n).length nc), (19, .slice pa pu.length pc), (30, .P b282 0), (33, .I ((n : Int) - 1 - (x : Int))), (205, .I ((n : Int) - 1 - (x : Int)))] ?_
              refine qI .seq 206 (sq 2 3) (((n : Int) - 1 - (x : Int)) - 1) ?_
              refine qF 1 [(0, .slice a xs.length c), (14, .slice na (toL n n).length nc), (19, .slice pa pu.length pc), (30, .P b282 0), (33, .I (((n : Int) - 1 - (x : Int)) - 1))] ?_
              have H := H.pick [2, 1, 0, 31, 32, 33, 34] rfl
              exact WK.back (hback285 (x + 1, D448, a6q460, k6q460, a3q451, k3q451, a4q451, k4q451) _ ⟨H, by omega, htv.step (by omega) (mprep_to hdl) (mprep_head hkn hdl) (mprep_data hkn hdl) hlaw450, hlaw450 ▸ rdB_got hBd⟩ (by simp only []; omega)) (by rw [show (n : Int) - 1 - (x : Int) - 1 = (n : Int) - 1 - ((x + 1 : Nat) : Int) by omega])
            ·
             refine qR 2 [.c [16, 0], .c [17]] [(0, .slice a xs.length c), (30, .P b282 0)] ?_
             refine qG (sq 0 7) ?_
             refine qL .seq 239 (sq 1 7) 107 b282 0 0 (.agg (rdV D a06v k06v a3v k3v a4v k4v).toArray) (H.cells 0 rfl) ?_
             refine qK .seq (some 240) (sq 2 7) 49 #[.agg (rdV D a06v k06v a3v k3v a4v k4v).toArray] (bytes_ok (r := D) (rd_mkB (by unfold rdB; omega) (H.rp 0 rfl) (H.rp 1 rfl) (H.rp 2 rfl)) (htv.ov.of) (by rw [htv.ov.len]; omega)) ?_
             rintro _ w470 hE473 ⟨a471, c472, rfl, hr474⟩
             have H := H.addN hE473 (F := Rp SB [.slice a471 xs.length c472] xs) hr474
             refine qF 5 [(0, .slice a xs.length c), (30, .P b282 0), (34, .slice a471 xs.length c472), (35, .I 0)] ?_
             refine qR 1 [.c [17, 0], .c [18]] [(0, .slice a xs.length c), (30, .P b282 0), (34, .slice a471 xs.length c472), (35, .I 0)] ?_
             refine qG (sq 0 16) ?_
             refine qP 1 (sq 1 16) [(0, .slice a xs.length c), (34, .slice a471 xs.length c472), (35, .I 0), (243, .P b282 13)] ?_
             refine qL .seq 244 (sq 2 16) 30 b282 13 13 (.I D.done) (H.cells 0 rfl) ?_
             refine qP 2 (sq 4 16) [(0, .slice a xs.length c), (34, .slice a471 xs.length c472), (35, .I 0), (246, .bool (D.done == 1))] ?_
             refine tE (fun b_ => [(0, .slice a xs.length c), (34, .slice a471 xs.length c472), (35, .I 0), (246, .bool b_)]) D.done 1 (fun h475 => ?_) (fun h475 => ?_)
             ·
              refine qP 6 (sq 10 16) [(250, .bool true), (251, .slice a471 xs.length c472), (252, .slice a xs.length c)] ?_
              refine qK .seq (some 253) (sq 11 16) 30 #[.slice a471 xs.length c472, .slice a xs.length c] (same01_spec (S := Av S w [] (idsOf [(b282, .cells (rdV D a06v k06v a3v k3v a4v k4v).toArray 107 (0, 0))] [])) (xs := xs) (ys := xs) (H.rp 0 rfl) (H.rp 7 rfl) (rfl)) ?_
              rintro _ w476 hE477 rfl
              have H := H.ext hE477
              refine qP 2 (sq 13 16) [(255, .bool true)] ?_
              refine qK .seq (some 256) (sq 14 16) 51 #[] (heads22_spec (S := fun _ => True)) ?_
              rintro _ w478 hE479 rfl
              have H := H.ext hE479
              refine qF 2 [(10, .bool true)] ?_
              refine qT (.bool true) Try.func16 ?_
              exact ⟨_, rfl, H.done, rfl⟩
             ·
              exact absurd (by rw [htv.ov.dn, if_pos (by omega)]) h475
end Go.Proofs.Ytppcdmbkgficiaa
