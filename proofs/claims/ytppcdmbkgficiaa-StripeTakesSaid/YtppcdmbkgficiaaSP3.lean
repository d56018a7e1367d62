import Derived.Test.YtppcdmbkgficiaaSBxA
import Derived.Test.YtppcdmbkgficiaaSM4
import Derived.Test.YtppcdmbkgficiaaSBxB
import Derived.Shelf.SlSortCmp.WholeK
import Derived.Shelf.SlGeneric
namespace Go.Proofs.Ytppcdmbkgficiaa
open Go.BX Go.Shelf
theorem isnan_same {S : Nat → Prop} {w : World} (x : Int) :
 Calls Try.prog 151 #[.I x] w (Ret fun v w' => Ext w w' ∧ w' = w ∧ v = .bool false) := by
 refine uS1 Try.func151 ?_
 have H := Hp.startF (w := w) (S := S) (G := []) .nil
 refine uR 4 [.c [2]] ?_
 refine qT (.bool (x != x)) Try.func151 ?_
 refine ⟨_, rfl, H.done, rfl, ?_⟩
 congr 1
 simp
def cmpI (x y : Int) : Int := if x < y then -1 else if y < x then 1 else 0
theorem compare_same {S : Nat → Prop} {w : World} (x y : Int) :
 Calls Try.prog 125 #[.I x, .I y] w (Ret fun v w' => Ext w w' ∧ w' = w ∧ v = .I (cmpI x y)) := by
 refine uS1 Try.func125 ?_
 have H := Hp.startF (w := w) (S := S) (G := []) .nil
 refine uR 3 [.c [1, 0], .c [2]] ?_
 refine qG (sq 0 3) ?_
 refine uP 1 ?_
 refine uK (isnan_same (S := fun _ => True) x) ?_
 rintro _ _ - ⟨rfl, rfl⟩
 refine uF 1 ?_
 refine uR 1 [.c [2, 0], .c [3]] ?_
 refine qG (sq 0 3) ?_
 refine uP 1 ?_
 refine uK (isnan_same (S := fun _ => True) y) ?_
 rintro _ _ - ⟨rfl, rfl⟩
 refine uF 1 ?_
 refine uR 13 [.c [5, 0, 1], .c [6]] ?_
 refine qD ((x : Int) < y) (fun a => ?_) (fun a => ?_)
 ·
  refine uR 2 [.c [5, 0, 1, 0, 1], .c [6]] ?_
  refine qT (.I (-1)) Try.func125 ?_
  refine ⟨_, rfl, H.done, rfl, ?_⟩
  congr 1
  unfold cmpI
  first | rw [if_pos (by omega)] | rw [if_neg (by omega), if_pos (by omega)] | rw [if_neg (by omega), if_neg (by omega)]
 ·
  refine uR 4 [.c [6, 0, 1], .c [7]] ?_
  refine qD ((x : Int) > y) (fun b => ?_) (fun b => ?_)
  ·
   refine uR 2 [.c [6, 0, 1, 0, 1], .c [7]] ?_
   refine qT (.I 1) Try.func125 ?_
   refine ⟨_, rfl, H.done, rfl, ?_⟩
   congr 1
   unfold cmpI
   first | rw [if_pos (by omega)] | rw [if_neg (by omega), if_pos (by omega)] | rw [if_neg (by omega), if_neg (by omega)]
  ·
   refine qR 3 [.c [8]] [(4, .I 0)] ?_
   refine qT (.I 0) Try.func125 ?_
   refine ⟨_, rfl, H.done, rfl, ?_⟩
   congr 1
   unfold cmpI
   first | rw [if_pos (by omega)] | rw [if_neg (by omega), if_pos (by omega)] | rw [if_neg (by omega), if_neg (by omega)]
theorem cmp_same {S : Nat → Prop} {w : World} (x y : Int) (v1 v2 : Value) :
 Calls Try.prog 124 #[.agg #[.I x, v1], .agg #[.I y, v2]] w (Ret fun v w' => v = .I (cmpI x y) ∧ Gr w w') := by
 have hG := Gr.refl w
 refine uS1 Try.func124 ?_
 have H := Hp.startF (w := w) (S := S) (G := []) .nil
 refine uR 1 [.c [0], .c [1]] ?_
 refine qG (sq 0 3) ?_
 refine RW.newG (κ := .seq) (d := some 2) (r := (sq 1 3)) (o := .cells #[.I x, v1] 72 (0, 0)) (v := fun b => .P b 0) (fun b => by as_aux_lemma => kernel_rfl) (nofun) H ?_
 intro _ _ a H; have hG := hG.new a
 refine RW.newG (κ := .seq) (d := some 3) (r := (sq 2 3)) (o := .cells #[.I y, v2] 72 (0, 0)) (v := fun b => .P b 0) (fun b => by as_aux_lemma => kernel_rfl) (nofun) H ?_
 intro _ _ e H; have hG := hG.new e
 refine uF 1 ?_
 refine uR 1 [.c [1, 0], .c [2]] ?_
 refine qG (sq 0 6) ?_
 refine uP 1 ?_
 refine uV 3 0 (H.cells 1 rfl) ?_
 refine uP 1 ?_
 refine uV 3 0 (H.cells 0 rfl) ?_
 refine uK (compare_same (S := fun _ => True) x y) ?_
 rintro _ _ - ⟨rfl, rfl⟩
 refine uF 1 ?_
 refine qT (.I (cmpI x y)) Try.func124 ?_
 exact ⟨_, rfl, rfl, hG⟩
def Try.sortPc_ren : Go.Shelf.Ren := ⟨fun | 6 => 123 | 15 => 150 | 14 => 149 | 28 => 165 | 29 => 166 | 20 => 157 | 21 => 158 | 22 => 159 | 23 => 160 | 24 => 161 | 25 => 162 | 26 => 163 | 27 => 164 | 46 => 169 | 47 => 170 | 48 => 171 | 49 => 172 | 50 => 173 | 57 => 174 | n => n, fun | 22 => 70 | 24 => 72 | 25 => 204 | 3 => 3 | 39 => 99 | 0 => 0 | 53 => 51 | 55 => 22 | 4 => 4 | 46 => 247 | 45 => 246 | 50 => 201 | 5 => 5 | 9 => 9 | 66 => 256 | 70 => 260 | 76 => 264 | 77 => 82 | n => n, fun | n => n⟩
theorem Try.sortPc : Go.Proofs.SlLaysF0.n6 Try.prog Try.sortPc_ren := {
 mixed := by kernel_rfl
 f6 := ⟨Try.f123.name, by decide, Try.func123.trans (congrArg some (by kernel_rfl))⟩
 f14 := ⟨Try.f149.name, by decide, Try.func149.trans (congrArg some (by kernel_rfl))⟩
 f15 := Try.func150.trans (congrArg some (by kernel_rfl))
 f20 := ⟨Try.f157.name, by decide, Try.func157.trans (congrArg some (by kernel_rfl))⟩
 f21 := ⟨Try.f158.name, by decide, Try.func158.trans (congrArg some (by kernel_rfl))⟩
 f22 := ⟨Try.f159.name, by decide, Try.func159.trans (congrArg some (by kernel_rfl))⟩
 f23 := ⟨Try.f160.name, by decide, Try.func160.trans (congrArg some (by kernel_rfl))⟩
 f24 := ⟨Try.f161.name, by decide, Try.func161.trans (congrArg some (by kernel_rfl))⟩
 f25 := ⟨Try.f162.name, by decide, Try.func162.trans (congrArg some (by kernel_rfl))⟩
 f26 := ⟨Try.f163.name, by decide, Try.func163.trans (congrArg some (by kernel_rfl))⟩
 f27 := ⟨Try.f164.name, by decide, Try.func164.trans (congrArg some (by kernel_rfl))⟩
 f28 := Try.func165.trans (congrArg some (by kernel_rfl))
 f29 := Try.func166.trans (congrArg some (by kernel_rfl))
 f46 := ⟨Try.f169.name, by decide, Try.func169.trans (congrArg some (by kernel_rfl))⟩
 f47 := Try.func170.trans (congrArg some (by kernel_rfl))
 f48 := Try.func171.trans (congrArg some (by kernel_rfl))
 f49 := ⟨Try.f172.name, by decide, Try.func172.trans (congrArg some (by kernel_rfl))⟩
 f50 := ⟨Try.f173.name, by decide, Try.func173.trans (congrArg some (by kernel_rfl))⟩
 f57 := ⟨Try.f174.name, by decide, Try.func174.trans (congrArg some (by kernel_rfl))⟩
 t0 := Try.underlying0
 a0 := Try.isAgg0
 z0 := Try.sizeOf0
 v0 := Try.zeroValue0
 t3 := Try.underlying3
 a3 := Try.isAgg3
 z3 := Try.sizeOf3
 v3 := Try.zeroValue3
 t4 := Try.underlying4
 a4 := Try.isAgg4
 z4 := Try.sizeOf4
 v4 := Try.zeroValue4
 t5 := Try.underlying5
 a5 := Try.isAgg5
 z5 := Try.sizeOf5
 v5 := Try.zeroValue5
 t9 := Try.underlying9
 a9 := Try.isAgg9
 z9 := Try.sizeOf9
 v9 := Try.zeroValue9
 t22 := Try.underlying70
 a22 := Try.isAgg70
 z22 := Try.sizeOf70
 v22 := Try.zeroValue70
 t25 := Try.underlying204
 a25 := Try.isAgg204
 z25 := Try.sizeOf204
 v25 := Try.zeroValue204
 t39 := Try.underlying99
 a39 := Try.isAgg99
 z39 := Try.sizeOf99
 v39 := Try.zeroValue99
 t45 := Try.underlying246
 a45 := Try.isAgg246
 z45 := Try.sizeOf246
 v45 := Try.zeroValue246
 t46 := Try.underlying247
 a46 := Try.isAgg247
 z46 := Try.sizeOf247
 v46 := Try.zeroValue247
 t50 := Try.underlying201
 a50 := Try.isAgg201
 z50 := Try.sizeOf201
 v50 := Try.zeroValue201
 t53 := Try.underlying51
 a53 := Try.isAgg51
 z53 := Try.sizeOf51
 v53 := Try.zeroValue51
 t55 := Try.underlying22
 a55 := Try.isAgg22
 z55 := Try.sizeOf22
 v55 := Try.zeroValue22
 t66 := Try.underlying256
 a66 := Try.isAgg256
 z66 := Try.sizeOf256
 v66 := Try.zeroValue256
 t70 := Try.underlying260
 a70 := Try.isAgg260
 z70 := Try.sizeOf260
 v70 := Try.zeroValue260
 t76 := Try.underlying264
 a76 := Try.isAgg264
 z76 := Try.sizeOf264
 v76 := Try.zeroValue264
 t77 := Try.underlying82
 a77 := Try.isAgg82
 z77 := Try.sizeOf82
 v77 := Try.zeroValue82 }
abbrev OneV : Type := {v : Value // v.oneCell' = true}
instance : Inhabited (Pc × OneV) := ⟨⟨⟨0, []⟩, ⟨.bool false, rfl⟩⟩⟩
def encP (x : Pc × OneV) : List Value := [.I x.1.index, x.2.1]
def cmpP (x y : Pc × OneV) : Int := cmpI x.1.index y.1.index
def pvS : Shape (Pc × OneV) where
 size := 2
 rep S w cs x := cs = encP x ∧ pcS.rep S w cs x.1
 pos := by decide
 len h := by rw [h.1]; rfl
 ones h := pcS.ones h.2
 step h hs := ⟨h.1, pcS.step h.2 hs⟩
theorem pv_of (S : Nat → Prop) (w : World) (cs : List Value) (x : Pc) (h : pcS.rep S w cs x) : ∃ y : Pc × OneV, y.1 = x ∧ pvS.rep S w cs y := by
 have b := h
 obtain ⟨a, k, e, _, _⟩ := pc_open h
 exact ⟨(x, ⟨.slice a x.data.length k, rfl⟩), rfl, by rw [e]; rfl, b⟩
theorem pv_enc (S : Nat → Prop) (w : World) (x : Pc × OneV) (cs : List Value) (h : pvS.rep S w cs x) : cs = encP x := h.1
theorem pv_pc (S : Nat → Prop) (w : World) (cs : List Value) (y : Pc × OneV) (h : pvS.rep S w cs y) : pcS.rep S w cs y.1 := h.2
theorem ltOf_cmpP (x y : Pc × OneV) : Go.Proofs.ltOf cmpP x y = decide (x.1.index < y.1.index) := by
 unfold Go.Proofs.ltOf cmpP cmpI
 congr 1
 rw [eq_iff_iff]
 by_cases h1 : x.1.index < y.1.index
 · simp [h1]
 · by_cases h2 : y.1.index < x.1.index
   · simp [h1, h2]
   · simp [h1, h2]
theorem cmpP_swo : Go.Sort.SWO (Go.Proofs.ltOf cmpP) where
 irrefl x := by rw [ltOf_cmpP]; exact decide_eq_false (by omega)
 trans x y z h1 h2 := by rw [ltOf_cmpP] at *; have h1 := of_decide_eq_true h1; have h2 := of_decide_eq_true h2; exact decide_eq_true (by omega)
 ntrans x y z h1 h2 := by rw [ltOf_cmpP] at *; have h1 := of_decide_eq_false h1; have h2 := of_decide_eq_false h2; exact decide_eq_false (by omega)
theorem cmpP_lays (blk off size : Nat) (w : World) : Go.Proofs.CmpLays Try.prog 124 #[] encP 2 cmpP blk off size w :=
 fun m os dk _ x y => (cmp_same (S := fun _ => True) x.1.index y.1.index x.2.1 y.2.1).mono fun e w' h => by
  obtain ⟨v, he, hv, q, os', hw⟩ := h
  exact ⟨he.trans (by rw [hv]; rfl), q, os', hw⟩
theorem sort_pv {S : Nat → Prop} {w : World} {O : List Nat} {b cap : Nat} {xs : List (Pc × OneV)} (H0 : Hp w S O [] [⟨pvS, 72, .slice (some ⟨b, 0, none⟩) xs.length cap, xs⟩] [] w) (hp : 0 < xs.length) (hsz : xs.length < 4611686018427387904) :
 Calls Try.prog 123 #[.slice (some ⟨b, 0, none⟩) xs.length cap, .func (.func 124) #[] #[]] w (Ret fun v w' => v = .tuple #[] ∧ ∃ ys : List (Pc × OneV), ys.Perm xs ∧ ys.Pairwise (fun x y => x.1.index ≤ y.1.index) ∧ Hp w S O [] [⟨pvS, 72, .slice (some ⟨b, 0, none⟩) xs.length cap, ys⟩] [] w') := by
 obtain ⟨hH, hb⟩ := H0.holdsK (enc := encP) (k := 2) rfl (by decide) pv_enc hp
 have eg : ∀ args w, (callFunc 124 args).run Try.prog w = .ok (.enter 124 args) w := Go.Proofs.enters_of Try.func124 (by kernel_rfl) rfl
 have h := Go.Proofs.AnyQ.slices_SortFunc Try.sortPc 2 (fun w => Try.isAgg72 w) (fun w => Try.sizeOf72 w) encP (fun _ => rfl) (fun x v hv => by simp [encP] at hv; rcases hv with rfl | rfl; rfl; exact x.2.2) cmpP cmpP_swo 124 #[] b 0 cap xs.toArray w eg (cmpP_lays b 0 _ w) hH hb (by simpa using hsz)
 change Calls Try.prog 123 _ _ _ at h
 simp only [List.size_toArray] at h
 refine h.mono fun e w' hh => ?_
 obtain ⟨he, d', n, os, hperm, hsort, rfl⟩ := hh
 have hd : d'.toList.Perm xs := by
  have a := hperm.2.2
  have c : d'.size = xs.length := by simpa using hperm.1
  rw [show d'.extract 0 xs.length = d' by rw [← c]; simp, show xs.toArray.extract 0 xs.length = xs.toArray by simp] at a
  simpa using a
 refine ⟨_, he, rfl, d'.toList, hd, ?_, H0.sortedK (enc := encP) (k := 2) rfl (by decide) pv_enc (fun _ => rfl) hp hd⟩
 rw [List.pairwise_iff_getElem]
 intro i j hi hj hij
 have c : d'.size = xs.length := by simpa using hperm.1
 simp only [Array.length_toList] at hi hj
 have := hsort i j (Nat.zero_le _) hij (by omega)
 rw [ltOf_cmpP, getElem!_pos d' j hj, getElem!_pos d' i hi] at this
 have := of_decide_eq_false this
 simp only [Array.getElem_toList]
 omega
theorem sort_pc {S : Nat → Prop} {w : World} {O : List Nat} {b cap : Nat} {xs : List Pc} (H0 : Hp w S O [] [⟨pcS, 72, .slice (some ⟨b, 0, none⟩) xs.length cap, xs⟩] [] w) (hp : 0 < xs.length) (hsz : xs.length < 4611686018427387904) :
 Calls Try.prog 123 #[.slice (some ⟨b, 0, none⟩) xs.length cap, .func (.func 124) #[] #[]] w (Ret fun v w' => v = .tuple #[] ∧ ∃ ys : List Pc, ys.Perm xs ∧ ys.Pairwise (fun x y => x.index ≤ y.index) ∧ Hp w S O [] [⟨pcS, 72, .slice (some ⟨b, 0, none⟩) xs.length cap, ys⟩] [] w') := by
 obtain ⟨zs, hz, a⟩ := H0.liftW (sh' := pvS) (fun y : Pc × OneV => y.1) rfl pv_of
 have hl : zs.length = xs.length := by rw [← hz, List.length_map]
 rw [← hl] at a ⊢
 refine (sort_pv a (by omega) (by omega)).mono fun e w' h => ?_
 obtain ⟨v, he, hv, ys, c, d, f⟩ := h
 refine ⟨v, he, hv, ys.map (·.1), ?_, ?_, f.mapW (fun y : Pc × OneV => y.1) rfl pv_pc⟩
 · rw [← hz]
   exact c.map _
 · rw [List.pairwise_map]
   exact d
theorem grow_spec {S : Nat → Prop} {w : World} {n : Nat} (hn : n ≤ 1099511627776) :
 Calls Try.prog 102 #[.slice none 0 0, .I n] w (Ret fun v w' => Ext w w' ∧ Hp w S [] [] [⟨Sb, 5, v, []⟩] [] w') := by
 refine uS1 Try.func102 ?_
 have H := Hp.startF (w := w) (S := S) (G := []) .nil
 refine uR 5 [.c [1, 0, 1], .c [2]] ?_
 refine qD (((n : Int) : Int) < 0) (fun h => ?_) (fun h => ?_)
 ·
  omega
 ·
  refine uR 3 [.c [2, 0, 0], .c [2, 0, 1], .c [3]] ?_
  refine qG (sq 0 8) ?_
  refine uP 6 ?_
  refine RW.pv (κ := .seq) (d := some 14) (r := (sq 7 8)) (v' := .I n) (v := .I (IntKind.i64.wrap ((n : Int) - 0))) (by as_aux_lemma => kernel_rfl) ((wr_i64 (by omega)).trans (by rw [Int.sub_zero])) ?_
  refine uF 1 ?_
  refine uR 2 [.c [2, 0, 2], .c [3]] ?_
  refine qD (((n : Int) : Int) > 0) (fun i => ?_) (fun i => ?_)
  ·
   refine qG (sq 0 10) ?_
   refine uP 3 ?_
   refine RW.readS (κ := .seq) (d := some 20) (r := (sq 4 10)) (s := semV (Instr.sliceAt 23 (.slice none 0 0) none (some (.I 0)) none)) (v := .slice none 0 0) (by as_aux_lemma => kernel_rfl) (fun w' _ => semV_run (sliceAt_run0 (e := 5) (m := 1) (by as_aux_lemma => kernel_rfl) (hi := 0) (.mk (by omega)) (by omega))) ?_
   refine uP 1 ?_
   refine RW.appendZN (d := some 22) (r := (sq 6 10)) (T := 23) (TI := 3) (ty := 23) (e := 5) (m := 1) (by_ := 1) (ik := .i64) (j := n) (t := (n : Int)) (by as_aux_lemma => kernel_rfl) (by omega) (by as_aux_lemma => kernel_rfl) (by as_aux_lemma => kernel_rfl) H (by decide) (by omega) (by omega) (by omega) ?_
   intro f a k _ H hcs _ _
   have H : Hp w S [] [(f, .cells k 5 (0, 0))] [] [] _ := H
   refine uP 2 ?_
   refine RW.sliceR (κ := .seq) (d := some 25) (r := (sq 9 10)) (T := 23) (e := 5) (m := 1) (b := f) (o := 0) (len := n) (cap := a) (lv := none) (hv := (some (.I 0))) (by as_aux_lemma => kernel_rfl) (by as_aux_lemma => kernel_rfl) 0 0 .nil (.mk (by omega)) (by omega) (by omega) ?_
   intro l g
   obtain rfl : l = 0 := by have := g (by omega); omega
   refine uF 1 ?_
   refine uR 2 [.c [4]] ?_
   refine qT (.slice (some ⟨f, 0, none⟩) 0 a) Try.func102 ?_
   have H := H.toOwn (sh := Sb) (xs := []) (cap := a) (by rw [hcs]; rfl) (Nat.zero_le _) (by unfold maxLen; omega) (by simp) EsP.nil
   have H := H.drop (M' := []) (W' := [_]) (List.nil_sublist _) (List.Sublist.refl _)
   exact ⟨_, rfl, H.done, H.pick [] rfl⟩
  ·
   refine qR 3 [.c [4]] [(4, .slice none 0 0)] ?_
   refine qT (.slice none 0 0) Try.func102 ?_
   exact ⟨_, rfl, H.done, (H.pick [] rfl).ownNil Sb 5⟩
def catTo (m : List (List (BitVec 8))) (i : Nat) : List (BitVec 8) := (m.take i).flatten
theorem catTo_succ {m : List (List (BitVec 8))} {i : Nat} (h : i < m.length) : catTo m i ++ m[i] = catTo m (i + 1) := by
 unfold catTo
 rw [List.take_succ_eq_append_getElem h, List.flatten_append]
 simp only [List.flatten_cons, List.flatten_nil, List.append_nil]
theorem catTo_len {m : List (List (BitVec 8))} {l i : Nat} (h : ∀ x ∈ m, x.length = l) (hi : i ≤ m.length) : (catTo m i).length = i * l := by
 induction i with
 | zero => simp [catTo]
 | succ i ih =>
  rw [← catTo_succ (by omega), List.length_append, ih (by omega), h _ (List.getElem_mem _), Nat.succ_mul]
theorem catTo_all (m : List (List (BitVec 8))) : catTo m m.length = m.flatten := by
 unfold catTo
 rw [List.take_length]
theorem concat_spec {S : Nat → Prop} {w : World} {m : List (List (BitVec 8))} {a : Option Addr} {k : Nat} (h : (Shape.slice SB).rep S w [.slice a m.length k] m) (hr : m.length ≤ 255) {l : Nat} (hl : ∀ x ∈ m, x.length = l) (hl2 : l ≤ 65536) :
 Calls Try.prog 70 #[.slice a m.length k] w (Ret fun v w' => Ext w w' ∧ Hp w S [] [] [⟨Sb, 5, v, m.flatten⟩] [] w') := by
 have hml := Shape.slice_len h
 have hmm : m.length * l ≤ 255 * 65536 := Nat.mul_le_mul hr hl2
 refine uS1 Try.func70 ?_
 have H := Hp.startF (.rp h .nil)
 refine qR 8 [.c [2, 0, 1, 0], .b 0, .c [3]] [(0, .slice a m.length k), (3, .I 0), (9, .slice a m.length k), (10, .I ((m.length : Nat) : Int)), (11, .I 0)] ?_
 refine WK.loop (α := Nat) (b := cd Try.prog 70 [2, 0, 1, 0, 0]) (by as_aux_lemma => kernel_rfl) (fun i => [(0, .slice a m.length k), (3, .I ((i * l : Nat) : Int)), (9, .slice a m.length k), (10, .I ((m.length : Nat) : Int)), (11, .I i)]) (fun i w' => Hp w S [] [] [] [Rp (Shape.slice SB) [.slice a m.length k] m] w' ∧ i ≤ m.length) (fun i => m.length - i) 0 ⟨H, Nat.zero_le _⟩ (by simp) ?_
 rintro i _ ⟨H, _⟩ o
 refine uR 3 [.c [2, 0, 1, 0, 0, 1, 0], .c [2, 0, 1, 0, 0, 2], .l [2, 0, 1, 0, 0], .b 0, .c [3]] ?_
 refine qD (((i : Int) : Int) < ((m.length : Nat) : Int)) (fun F => ?_) (fun F => ?_)
 ·
  have hil := hl (m[i]) (List.getElem_mem (by omega))
  have hib : i * l ≤ 255 * 65536 := Nat.mul_le_mul (by omega) hl2
  have his : (i + 1) * l = i * l + l := Nat.succ_mul i l
  refine uR 4 [.c [2, 0, 1, 0, 0, 2, 0, 0, 0], .c [2, 0, 1, 0, 0, 2, 0, 0, 1], .b 1, .c [2, 0, 1, 0, 0, 3], .l [2, 0, 1, 0, 0], .b 0, .c [3]] ?_
  refine qG (sq 0 3) ?_
  have y : i < m.length := by omega
  refine uX 29 (i : Int) H 0 rfl i (by omega) (List.getElem?_eq_getElem y) ?_
  intro _ _ _ r H
  obtain ⟨_, _, rfl⟩ := Shape.slice_form' r
  have H := H.addR r
  refine uV 23 0 (H.fc 1 rfl) ?_
  refine uF 1 ?_
  refine uR 1 [.c [2, 0, 1, 0, 0, 2, 0, 0, 1, 0], .c [2, 0, 1, 0, 0, 2, 0, 0, 2], .b 1, .c [2, 0, 1, 0, 0, 3], .l [2, 0, 1, 0, 0], .b 0, .c [3]] ?_
  refine qG (sq 0 5) ?_
  refine uP 3 ?_
  refine uI (((i * l : Nat) : Int) + (((m[i]).length : Nat) : Int)) ?_
  refine uF 1 ?_
  refine uR 2 [.c [2, 0, 1, 0, 0, 2, 0, 0, 3], .b 1, .c [2, 0, 1, 0, 0, 3], .l [2, 0, 1, 0, 0], .b 0, .c [3]] ?_
  refine qD ((((i * l : Nat) : Int) + (((m[i]).length : Nat) : Int) : Int) < 0) (fun z => ?_) (fun z => ?_)
  ·
   omega
  ·
   refine uR 2 [.c [2, 0, 1, 0, 0, 3], .l [2, 0, 1, 0, 0], .b 0, .c [3]] ?_
   refine qG (sq 0 2) ?_
   refine uI ((i : Int) + 1) ?_
   refine qF 1 [(0, .slice a m.length k), (3, .I (((i * l : Nat) : Int) + (((m[i]).length : Nat) : Int))), (9, .slice a m.length k), (10, .I ((m.length : Nat) : Int)), (11, .I ((i : Int) + 1))] ?_
   have H := H.pick [2] rfl
   exact WK.back (o (i + 1) _ ⟨H, by omega⟩ (by first | omega | (simp only []; omega))) (by rw [his, hil]; simp)
 ·
  have hib : i * l ≤ 255 * 65536 := Nat.mul_le_mul (by omega) hl2
  refine uR 2 [.c [3, 0], .c [4]] ?_
  refine qG (sq 0 3) ?_
  refine uP 1 ?_
  refine uK (grow_spec (S := Av S w [] (idsOf [] [])) (n := i * l) (by omega)) ?_
  rintro _ _ - H'
  have H := H.back (M1 := []) (W1 := []) H'
  obtain ⟨d, e, rfl, _, _⟩ := H.ownForm 0 rfl
  have H : Hp w S [] [] [⟨Sb, 5, .slice d (([] : List (BitVec 8)).length) e, ([] : List (BitVec 8))⟩] [_] _ := H
  refine uF 1 ?_
  refine qR 4 [.c [4, 0, 1, 0], .b 2, .c [5]] [(6, .slice d (([] : List (BitVec 8)).length) e), (25, .slice a m.length k), (26, .I ((m.length : Nat) : Int)), (27, .I 0)] ?_
  have H := H.drop (M' := []) (W' := [⟨Sb, 5, .slice d (catTo m 0).length e, catTo m 0⟩]) (by repeat (first | exact List.Sublist.refl _ | exact List.nil_sublist _ | apply List.Sublist.cons_cons | apply List.Sublist.cons)) (by repeat (first | exact List.Sublist.refl _ | exact List.nil_sublist _ | apply List.Sublist.cons_cons | apply List.Sublist.cons))
  refine uL (α := Nat × Option Addr × Nat) (g := 70) (p := [4, 0, 1, 0, 0]) (fun (j, ao, co) => [(6, .slice ao (catTo m j).length co), (25, .slice a m.length k), (26, .I ((m.length : Nat) : Int)), (27, .I j)]) (fun (j, ao, co) w' => Hp w S [] [] [⟨Sb, 5, .slice ao (catTo m j).length co, catTo m j⟩] [Rp (Shape.slice SB) [.slice a m.length k] m] w' ∧ j ≤ m.length) (fun (j, ao, co) => m.length - j) (0, d, e) ⟨H, Nat.zero_le _⟩ ?_
  rintro ⟨j, ao, co⟩ _ ⟨H, _⟩ f
  refine uR 3 [.c [4, 0, 1, 0, 0, 1, 0], .c [4, 0, 1, 0, 0, 2], .l [4, 0, 1, 0, 0], .b 2, .c [5]] ?_
  refine qD (((j : Int) : Int) < ((m.length : Nat) : Int)) (fun A => ?_) (fun A => ?_)
  ·
   have hil := hl (m[j]) (List.getElem_mem (by omega))
   have hcl := catTo_len (m := m) hl (show j ≤ m.length by omega)
   have hjb : j * l ≤ 255 * 65536 := Nat.mul_le_mul (by omega) hl2
   refine uR 4 [.c [4, 0, 1, 0, 0, 2, 0, 0, 0], .c [4, 0, 1, 0, 0, 2, 0, 0, 1], .b 3, .c [4, 0, 1, 0, 0, 3], .l [4, 0, 1, 0, 0], .b 2, .c [5]] ?_
   refine qG (sq 0 3) ?_
   have u : j < m.length := by omega
   refine uX 29 (j : Int) H 0 rfl j (by omega) (List.getElem?_eq_getElem u) ?_
   intro B C _ q H
   obtain ⟨D, E, rfl⟩ := Shape.slice_form' q
   have H := H.addR q
   refine uV 23 0 (H.fc 1 rfl) ?_
   refine uF 1 ?_
   refine qG (sq 0 4) ?_
   refine uP 2 ?_
   refine uA 23 23 1 (catTo m (j + 1)) H 0 rfl 0 rfl (catTo_succ (by omega)) (by rw [← catTo_succ (by omega), List.length_append]; omega) ?_
   intro s t _ H _
   have H : Hp w S [] [] [⟨Sb, 5, .slice s ((catTo m (j + 1)).length) t, catTo m (j + 1)⟩] [_, Fc B C [.slice D (m[j]).length E], _] _ := H
   refine uF 1 ?_
   refine uR 1 [.c [4, 0, 1, 0, 0, 3], .l [4, 0, 1, 0, 0], .b 2, .c [5]] ?_
   refine qG (sq 0 2) ?_
   refine uI ((j : Int) + 1) ?_
   refine uF 1 ?_
   have H := H.pick [2] rfl
   exact uB (f (j + 1, s, t) _ ⟨H, by omega⟩ (by first | omega | (simp only []; omega)))
  ·
   refine uR 3 [.c [6]] ?_
   refine qT (.slice ao (catTo m j).length co) Try.func70 ?_
   have hje : j = m.length := by omega
   rw [hje, catTo_all] at H
   have H := H.drop (M' := []) (W' := [_]) (List.nil_sublist _) (List.cons_sublist_cons.2 (List.nil_sublist _))
   exact ⟨_, rfl, H.done, by rw [hje, catTo_all]; exact H.pick [] rfl⟩
end Go.Proofs.Ytppcdmbkgficiaa
