import Derived.Test.YtppcdmbkgficiaaGreatSBxB
import Derived.Test.YtppcdmbkgficiaaGreatSM4
import Derived.Shelf.SlSortCmp.WholeK
import Derived.Shelf.SlGeneric
namespace Go.Proofs.YtppcdmbkgficiaaGreat
open Go.BX Go.Shelf
theorem isnan_same {S : Nat → Prop} {w : World} (x : Int) :
 Calls Tryz.prog 125 #[.I x] w (Ret fun v w' => Ext w w' ∧ w' = w ∧ v = .bool false) := by
 refine uS1 Tryz.func125 ?_
 have H := Hp.startF (w := w) (S := S) (G := []) .nil
 refine uR 4 [.c [2]] ?_
 refine qT (.bool (x != x)) Tryz.func125 ?_
 refine ⟨_, rfl, H.done, rfl, ?_⟩
 congr 1
 simp
def cmpI (x y : Int) : Int := if x < y then -1 else if y < x then 1 else 0
theorem compare_same {S : Nat → Prop} {w : World} (x y : Int) :
 Calls Tryz.prog 111 #[.I x, .I y] w (Ret fun v w' => Ext w w' ∧ w' = w ∧ v = .I (cmpI x y)) := by
 refine uS1 Tryz.func111 ?_
 have H := Hp.startF (w := w) (S := S) (G := []) .nil
 refine uR 3 [.c [1, 0], .c [2]] ?_
 refine qG (sq 0 3) ?_
 refine uP 1 ?_
 refine uK (isnan_same (S := fun _ => True) x) ?_
 rintro _ _ - ⟨rfl, rfl⟩
 refine uF 1 ?_
 refine uR 1 [.c [2, 0], .c [3]] ?_
 refine qG (sq 0 3) ?_
 refine uP 1 ?_
 refine uK (isnan_same (S := fun _ => True) y) ?_
 rintro _ _ - ⟨rfl, rfl⟩
 refine uF 1 ?_
 refine uR 13 [.c [5, 0, 1], .c [6]] ?_
 refine qD ((x : Int) < y) (fun a => ?_) (fun a => ?_)
 ·
  refine uR 2 [.c [5, 0, 1, 0, 1], .c [6]] ?_
  refine qT (.I (-1)) Tryz.func111 ?_
  refine ⟨_, rfl, H.done, rfl, ?_⟩
  congr 1
  unfold cmpI
  first | rw [if_pos (by omega)] | rw [if_neg (by omega), if_pos (by omega)] | rw [if_neg (by omega), if_neg (by omega)]
 ·
  refine uR 4 [.c [6, 0, 1], .c [7]] ?_
  refine qD ((x : Int) > y) (fun b => ?_) (fun b => ?_)
  ·
   refine uR 2 [.c [6, 0, 1, 0, 1], .c [7]] ?_
   refine qT (.I 1) Tryz.func111 ?_
   refine ⟨_, rfl, H.done, rfl, ?_⟩
   congr 1
   unfold cmpI
   first | rw [if_pos (by omega)] | rw [if_neg (by omega), if_pos (by omega)] | rw [if_neg (by omega), if_neg (by omega)]
  ·
   refine qR 3 [.c [8]] [(4, .I 0)] ?_
   refine qT (.I 0) Tryz.func111 ?_
   refine ⟨_, rfl, H.done, rfl, ?_⟩
   congr 1
   unfold cmpI
   first | rw [if_pos (by omega)] | rw [if_neg (by omega), if_pos (by omega)] | rw [if_neg (by omega), if_neg (by omega)]
theorem cmp_same {S : Nat → Prop} {w : World} (x y : Int) (v1 v2 : Value) :
 Calls Tryz.prog 110 #[.agg #[.I x, v1], .agg #[.I y, v2]] w (Ret fun v w' => v = .I (cmpI x y) ∧ Gr w w') := by
 have hG := Gr.refl w
 refine uS1 Tryz.func110 ?_
 have H := Hp.startF (w := w) (S := S) (G := []) .nil
 refine uR 1 [.c [0], .c [1]] ?_
 refine qG (sq 0 3) ?_
 refine RW.newG (κ := .seq) (d := some 2) (r := (sq 1 3)) (o := .cells #[.I x, v1] 64 (0, 0)) (v := fun b => .P b 0) (fun b => by as_aux_lemma => kernel_rfl) (nofun) H ?_
 intro _ _ a H; have hG := hG.new a
 refine RW.newG (κ := .seq) (d := some 3) (r := (sq 2 3)) (o := .cells #[.I y, v2] 64 (0, 0)) (v := fun b => .P b 0) (fun b => by as_aux_lemma => kernel_rfl) (nofun) H ?_
 intro _ _ e H; have hG := hG.new e
 refine uF 1 ?_
 refine uR 1 [.c [1, 0], .c [2]] ?_
 refine qG (sq 0 6) ?_
 refine uP 1 ?_
 refine uV 3 0 (H.cells 1 rfl) ?_
 refine uP 1 ?_
 refine uV 3 0 (H.cells 0 rfl) ?_
 refine uK (compare_same (S := fun _ => True) x y) ?_
 rintro _ _ - ⟨rfl, rfl⟩
 refine uF 1 ?_
 refine qT (.I (cmpI x y)) Tryz.func110 ?_
 exact ⟨_, rfl, rfl, hG⟩
def Tryz.sortPc_ren : Go.Shelf.Ren := ⟨fun | 6 => 109 | 15 => 124 | 14 => 123 | 28 => 135 | 29 => 136 | 20 => 127 | 21 => 128 | 22 => 129 | 23 => 130 | 24 => 131 | 25 => 132 | 26 => 133 | 27 => 134 | 46 => 138 | 47 => 139 | 48 => 140 | 49 => 141 | 50 => 142 | 57 => 143 | n => n, fun | 22 => 27 | 24 => 64 | 25 => 220 | 3 => 3 | 39 => 142 | 0 => 0 | 53 => 23 | 55 => 22 | 4 => 4 | 46 => 238 | 45 => 237 | 50 => 217 | 5 => 5 | 9 => 9 | 66 => 246 | 70 => 250 | 76 => 252 | 77 => 58 | n => n, fun | n => n⟩
theorem Tryz.sortPc : Go.Proofs.SlLaysF0.n6 Tryz.prog Tryz.sortPc_ren := {
 mixed := by kernel_rfl
 f6 := ⟨Tryz.f109.name, by decide, Tryz.func109.trans (congrArg some (by kernel_rfl))⟩
 f14 := ⟨Tryz.f123.name, by decide, Tryz.func123.trans (congrArg some (by kernel_rfl))⟩
 f15 := Tryz.func124.trans (congrArg some (by kernel_rfl))
 f20 := ⟨Tryz.f127.name, by decide, Tryz.func127.trans (congrArg some (by kernel_rfl))⟩
 f21 := ⟨Tryz.f128.name, by decide, Tryz.func128.trans (congrArg some (by kernel_rfl))⟩
 f22 := ⟨Tryz.f129.name, by decide, Tryz.func129.trans (congrArg some (by kernel_rfl))⟩
 f23 := ⟨Tryz.f130.name, by decide, Tryz.func130.trans (congrArg some (by kernel_rfl))⟩
 f24 := ⟨Tryz.f131.name, by decide, Tryz.func131.trans (congrArg some (by kernel_rfl))⟩
 f25 := ⟨Tryz.f132.name, by decide, Tryz.func132.trans (congrArg some (by kernel_rfl))⟩
 f26 := ⟨Tryz.f133.name, by decide, Tryz.func133.trans (congrArg some (by kernel_rfl))⟩
 f27 := ⟨Tryz.f134.name, by decide, Tryz.func134.trans (congrArg some (by kernel_rfl))⟩
 f28 := Tryz.func135.trans (congrArg some (by kernel_rfl))
 f29 := Tryz.func136.trans (congrArg some (by kernel_rfl))
 f46 := ⟨Tryz.f138.name, by decide, Tryz.func138.trans (congrArg some (by kernel_rfl))⟩
 f47 := Tryz.func139.trans (congrArg some (by kernel_rfl))
 f48 := Tryz.func140.trans (congrArg some (by kernel_rfl))
 f49 := ⟨Tryz.f141.name, by decide, Tryz.func141.trans (congrArg some (by kernel_rfl))⟩
 f50 := ⟨Tryz.f142.name, by decide, Tryz.func142.trans (congrArg some (by kernel_rfl))⟩
 f57 := ⟨Tryz.f143.name, by decide, Tryz.func143.trans (congrArg some (by kernel_rfl))⟩
 t0 := Tryz.underlying0
 a0 := Tryz.isAgg0
 z0 := Tryz.sizeOf0
 v0 := Tryz.zeroValue0
 t3 := Tryz.underlying3
 a3 := Tryz.isAgg3
 z3 := Tryz.sizeOf3
 v3 := Tryz.zeroValue3
 t4 := Tryz.underlying4
 a4 := Tryz.isAgg4
 z4 := Tryz.sizeOf4
 v4 := Tryz.zeroValue4
 t5 := Tryz.underlying5
 a5 := Tryz.isAgg5
 z5 := Tryz.sizeOf5
 v5 := Tryz.zeroValue5
 t9 := Tryz.underlying9
 a9 := Tryz.isAgg9
 z9 := Tryz.sizeOf9
 v9 := Tryz.zeroValue9
 t22 := Tryz.underlying27
 a22 := Tryz.isAgg27
 z22 := Tryz.sizeOf27
 v22 := Tryz.zeroValue27
 t25 := Tryz.underlying220
 a25 := Tryz.isAgg220
 z25 := Tryz.sizeOf220
 v25 := Tryz.zeroValue220
 t39 := Tryz.underlying142
 a39 := Tryz.isAgg142
 z39 := Tryz.sizeOf142
 v39 := Tryz.zeroValue142
 t45 := Tryz.underlying237
 a45 := Tryz.isAgg237
 z45 := Tryz.sizeOf237
 v45 := Tryz.zeroValue237
 t46 := Tryz.underlying238
 a46 := Tryz.isAgg238
 z46 := Tryz.sizeOf238
 v46 := Tryz.zeroValue238
 t50 := Tryz.underlying217
 a50 := Tryz.isAgg217
 z50 := Tryz.sizeOf217
 v50 := Tryz.zeroValue217
 t53 := Tryz.underlying23
 a53 := Tryz.isAgg23
 z53 := Tryz.sizeOf23
 v53 := Tryz.zeroValue23
 t55 := Tryz.underlying22
 a55 := Tryz.isAgg22
 z55 := Tryz.sizeOf22
 v55 := Tryz.zeroValue22
 t66 := Tryz.underlying246
 a66 := Tryz.isAgg246
 z66 := Tryz.sizeOf246
 v66 := Tryz.zeroValue246
 t70 := Tryz.underlying250
 a70 := Tryz.isAgg250
 z70 := Tryz.sizeOf250
 v70 := Tryz.zeroValue250
 t76 := Tryz.underlying252
 a76 := Tryz.isAgg252
 z76 := Tryz.sizeOf252
 v76 := Tryz.zeroValue252
 t77 := Tryz.underlying58
 a77 := Tryz.isAgg58
 z77 := Tryz.sizeOf58
 v77 := Tryz.zeroValue58 }
abbrev OneV : Type := {v : Value // v.oneCell' = true}
instance : Inhabited (Pc × OneV) := ⟨⟨⟨0, []⟩, ⟨.bool false, rfl⟩⟩⟩
def encP (x : Pc × OneV) : List Value := [.I x.1.index, x.2.1]
def cmpP (x y : Pc × OneV) : Int := cmpI x.1.index y.1.index
def pvS : Shape (Pc × OneV) where
 size := 2
 rep S w cs x := cs = encP x ∧ pcS.rep S w cs x.1
 pos := by decide
 len h := by rw [h.1]; rfl
 ones h := pcS.ones h.2
 step h hs := ⟨h.1, pcS.step h.2 hs⟩
theorem pv_of (S : Nat → Prop) (w : World) (cs : List Value) (x : Pc) (h : pcS.rep S w cs x) : ∃ y : Pc × OneV, y.1 = x ∧ pvS.rep S w cs y := by
 have b := h
 obtain ⟨a, k, e, _, _⟩ := pc_open h
 exact ⟨(x, ⟨.slice a x.data.length k, rfl⟩), rfl, by rw [e]; rfl, b⟩
theorem pv_enc (S : Nat → Prop) (w : World) (x : Pc × OneV) (cs : List Value) (h : pvS.rep S w cs x) : cs = encP x := h.1
theorem pv_pc (S : Nat → Prop) (w : World) (cs : List Value) (y : Pc × OneV) (h : pvS.rep S w cs y) : pcS.rep S w cs y.1 := h.2
theorem ltOf_cmpP (x y : Pc × OneV) : Go.Proofs.ltOf cmpP x y = decide (x.1.index < y.1.index) := by
 unfold Go.Proofs.ltOf cmpP cmpI
 congr 1
 rw [eq_iff_iff]
 by_cases h1 : x.1.index < y.1.index
 · simp [h1]
 · by_cases h2 : y.1.index < x.1.index
   · simp [h1, h2]
   · simp [h1, h2]
theorem cmpP_swo : Go.Sort.SWO (Go.Proofs.ltOf cmpP) where
 irrefl x := by rw [ltOf_cmpP]; exact decide_eq_false (by omega)
 trans x y z h1 h2 := by rw [ltOf_cmpP] at *; have h1 := of_decide_eq_true h1; have h2 := of_decide_eq_true h2; exact decide_eq_true (by omega)
 ntrans x y z h1 h2 := by rw [ltOf_cmpP] at *; have h1 := of_decide_eq_false h1; have h2 := of_decide_eq_false h2; exact decide_eq_false (by omega)
theorem cmpP_lays (blk off size : Nat) (w : World) : Go.Proofs.CmpLays Tryz.prog 110 #[] encP 2 cmpP blk off size w :=
 fun m os dk _ x y => (cmp_same (S := fun _ => True) x.1.index y.1.index x.2.1 y.2.1).mono fun e w' h => by
  obtain ⟨v, he, hv, q, os', hw⟩ := h
  exact ⟨he.trans (by rw [hv]; rfl), q, os', hw⟩
theorem sort_pv {S : Nat → Prop} {w : World} {O : List Nat} {b cap : Nat} {xs : List (Pc × OneV)} (H0 : Hp w S O [] [⟨pvS, 64, .slice (some ⟨b, 0, none⟩) xs.length cap, xs⟩] [] w) (hp : 0 < xs.length) (hsz : xs.length < 4611686018427387904) :
 Calls Tryz.prog 109 #[.slice (some ⟨b, 0, none⟩) xs.length cap, .func (.func 110) #[] #[]] w (Ret fun v w' => v = .tuple #[] ∧ ∃ ys : List (Pc × OneV), ys.Perm xs ∧ ys.Pairwise (fun x y => x.1.index ≤ y.1.index) ∧ Hp w S O [] [⟨pvS, 64, .slice (some ⟨b, 0, none⟩) xs.length cap, ys⟩] [] w') := by
 obtain ⟨hH, hb⟩ := H0.holdsK (enc := encP) (k := 2) rfl (by decide) pv_enc hp
 have eg : ∀ args w, (callFunc 110 args).run Tryz.prog w = .ok (.enter 110 args) w := Go.Proofs.enters_of Tryz.func110 (by kernel_rfl) rfl
 have h := Go.Proofs.AnyQ.slices_SortFunc Tryz.sortPc 2 (fun w => Tryz.isAgg64 w) (fun w => Tryz.sizeOf64 w) encP (fun _ => rfl) (fun x v hv => by simp [encP] at hv; rcases hv with rfl | rfl; rfl; exact x.2.2) cmpP cmpP_swo 110 #[] b 0 cap xs.toArray w eg (cmpP_lays b 0 _ w) hH hb (by simpa using hsz)
 change Calls Tryz.prog 109 _ _ _ at h
 simp only [List.size_toArray] at h
 refine h.mono fun e w' hh => ?_
 obtain ⟨he, d', n, os, hperm, hsort, rfl⟩ := hh
 have hd : d'.toList.Perm xs := by
  have a := hperm.2.2
  have c : d'.size = xs.length := by simpa using hperm.1
  rw [show d'.extract 0 xs.length = d' by rw [← c]; simp, show xs.toArray.extract 0 xs.length = xs.toArray by simp] at a
  simpa using a
 refine ⟨_, he, rfl, d'.toList, hd, ?_, H0.sortedK (enc := encP) (k := 2) rfl (by decide) pv_enc (fun _ => rfl) hp hd⟩
 rw [List.pairwise_iff_getElem]
 intro i j hi hj hij
 have c : d'.size = xs.length := by simpa using hperm.1
 simp only [Array.length_toList] at hi hj
 have := hsort i j (Nat.zero_le _) hij (by omega)
 rw [ltOf_cmpP, getElem!_pos d' j hj, getElem!_pos d' i hi] at this
 have := of_decide_eq_false this
 simp only [Array.getElem_toList]
 omega
theorem sort_pc {S : Nat → Prop} {w : World} {O : List Nat} {b cap : Nat} {xs : List Pc} (H0 : Hp w S O [] [⟨pcS, 64, .slice (some ⟨b, 0, none⟩) xs.length cap, xs⟩] [] w) (hp : 0 < xs.length) (hsz : xs.length < 4611686018427387904) :
 Calls Tryz.prog 109 #[.slice (some ⟨b, 0, none⟩) xs.length cap, .func (.func 110) #[] #[]] w (Ret fun v w' => v = .tuple #[] ∧ ∃ ys : List Pc, ys.Perm xs ∧ ys.Pairwise (fun x y => x.index ≤ y.index) ∧ Hp w S O [] [⟨pcS, 64, .slice (some ⟨b, 0, none⟩) xs.length cap, ys⟩] [] w') := by
 obtain ⟨zs, hz, a⟩ := H0.liftW (sh' := pvS) (fun y : Pc × OneV => y.1) rfl pv_of
 have hl : zs.length = xs.length := by rw [← hz, List.length_map]
 rw [← hl] at a ⊢
 refine (sort_pv a (by omega) (by omega)).mono fun e w' h => ?_
 obtain ⟨v, he, hv, ys, c, d, f⟩ := h
 refine ⟨v, he, hv, ys.map (·.1), ?_, ?_, f.mapW (fun y : Pc × OneV => y.1) rfl pv_pc⟩
 · rw [← hz]
   exact c.map _
 · rw [List.pairwise_map]
   exact d
theorem grow_spec {S : Nat → Prop} {w : World} {n : Nat} (hn : n ≤ 1099511627776) :
 Calls Tryz.prog 92 #[.slice none 0 0, .I n] w (Ret fun v w' => Ext w w' ∧ Hp w S [] [] [⟨Sb, 5, v, []⟩] [] w') := by
 refine uS1 Tryz.func92 ?_
 have H := Hp.startF (w := w) (S := S) (G := []) .nil
 refine uR 5 [.c [1, 0, 1], .c [2]] ?_
 refine qD (((n : Int) : Int) < 0) (fun h => ?_) (fun h => ?_)
 ·
  omega
 ·
  refine uR 3 [.c [2, 0, 0], .c [2, 0, 1], .c [3]] ?_
  refine qG (sq 0 8) ?_
  refine uP 6 ?_
  refine RW.pv (κ := .seq) (d := some 14) (r := (sq 7 8)) (v' := .I n) (v := .I (IntKind.i64.wrap ((n : Int) - 0))) (by as_aux_lemma => kernel_rfl) ((wr_i64 (by omega)).trans (by rw [Int.sub_zero])) ?_
  refine uF 1 ?_
  refine uR 2 [.c [2, 0, 2], .c [3]] ?_
  refine qD (((n : Int) : Int) > 0) (fun i => ?_) (fun i => ?_)
  ·
   refine qG (sq 0 10) ?_
   refine uP 3 ?_
   refine RW.readS (κ := .seq) (d := some 20) (r := (sq 4 10)) (s := semV (Instr.sliceAt 62 (.slice none 0 0) none (some (.I 0)) none)) (v := .slice none 0 0) (by as_aux_lemma => kernel_rfl) (fun w' _ => semV_run (sliceAt_run0 (e := 5) (m := 1) (by as_aux_lemma => kernel_rfl) (hi := 0) (.mk (by omega)) (by omega))) ?_
   refine uP 1 ?_
   refine RW.appendZN (d := some 22) (r := (sq 6 10)) (T := 62) (TI := 3) (ty := 62) (e := 5) (m := 1) (by_ := 1) (ik := .i64) (j := n) (t := (n : Int)) (by as_aux_lemma => kernel_rfl) (by omega) (by as_aux_lemma => kernel_rfl) (by as_aux_lemma => kernel_rfl) H (by decide) (by omega) (by omega) (by omega) ?_
   intro f a k _ H hcs _ _
   have H : Hp w S [] [(f, .cells k 5 (0, 0))] [] [] _ := H
   refine uP 2 ?_
   refine RW.sliceR (κ := .seq) (d := some 25) (r := (sq 9 10)) (T := 62) (e := 5) (m := 1) (b := f) (o := 0) (len := n) (cap := a) (lv := none) (hv := (some (.I 0))) (by as_aux_lemma => kernel_rfl) (by as_aux_lemma => kernel_rfl) 0 0 .nil (.mk (by omega)) (by omega) (by omega) ?_
   intro l g
   obtain rfl : l = 0 := by have := g (by omega); omega
   refine uF 1 ?_
   refine uR 2 [.c [4]] ?_
   refine qT (.slice (some ⟨f, 0, none⟩) 0 a) Tryz.func92 ?_
   have H := H.toOwn (sh := Sb) (xs := []) (cap := a) (by rw [hcs]; rfl) (Nat.zero_le _) (by unfold maxLen; omega) (by simp) EsP.nil
   have H := H.drop (M' := []) (W' := [_]) (List.nil_sublist _) (List.Sublist.refl _)
   exact ⟨_, rfl, H.done, H.pick [] rfl⟩
  ·
   refine qR 3 [.c [4]] [(4, .slice none 0 0)] ?_
   refine qT (.slice none 0 0) Tryz.func92 ?_
   exact ⟨_, rfl, H.done, (H.pick [] rfl).ownNil Sb 5⟩
def catTo (m : List (List (BitVec 8))) (i : Nat) : List (BitVec 8) := (m.take i).flatten
theorem catTo_succ {m : List (List (BitVec 8))} {i : Nat} (h : i < m.length) : catTo m i ++ m[i] = catTo m (i + 1) := by
 unfold catTo
 rw [List.take_succ_eq_append_getElem h, List.flatten_append]
 simp only [List.flatten_cons, List.flatten_nil, List.append_nil]
theorem catTo_len {m : List (List (BitVec 8))} {l i : Nat} (h : ∀ x ∈ m, x.length = l) (hi : i ≤ m.length) : (catTo m i).length = i * l := by
 induction i with
 | zero => simp [catTo]
 | succ i ih =>
  rw [← catTo_succ (by omega), List.length_append, ih (by omega), h _ (List.getElem_mem _), Nat.succ_mul]
theorem catTo_all (m : List (List (BitVec 8))) : catTo m m.length = m.flatten := by
 unfold catTo
 rw [List.take_length]
theorem concat_spec {S : Nat → Prop} {w : World} {m : List (List (BitVec 8))} {a : Option Addr} {k : Nat} (h : (Shape.slice SB).rep S w [.slice a m.length k] m) (hr : m.length ≤ 255) {l : Nat} (hl : ∀ x ∈ m, x.length = l) (hl2 : l ≤ 65536) :
 Calls Tryz.prog 67 #[.slice a m.length k] w (Ret fun v w' => Ext w w' ∧ Hp w S [] [] [⟨Sb, 5, v, m.flatten⟩] [] w') := by
 have hml := Shape.slice_len h
 have hmm : m.length * l ≤ 255 * 65536 := Nat.mul_le_mul hr hl2
 refine uS1 Tryz.func67 ?_
 have H := Hp.startF (.rp h .nil)
 refine qR 8 [.c [2, 0, 1, 0], .b 0, .c [3]] [(0, .slice a m.length k), (3, .I 0), (9, .slice a m.length k), (10, .I ((m.length : Nat) : Int)), (11, .I 0)] ?_
 refine WK.loop (α := Nat) (b := cd Tryz.prog 67 [2, 0, 1, 0, 0]) (by as_aux_lemma => kernel_rfl) (fun i => [(0, .slice a m.length k), (3, .I ((i * l : Nat) : Int)), (9, .slice a m.length k), (10, .I ((m.length : Nat) : Int)), (11, .I i)]) (fun i w' => Hp w S [] [] [] [Rp (Shape.slice SB) [.slice a m.length k] m] w' ∧ i ≤ m.length) (fun i => m.length - i) 0 ⟨H, Nat.zero_le _⟩ (by simp) ?_
 rintro i _ ⟨H, _⟩ o
 refine uR 3 [.c [2, 0, 1, 0, 0, 1, 0], .c [2, 0, 1, 0, 0, 2], .l [2, 0, 1, 0, 0], .b 0, .c [3]] ?_
 refine qD (((i : Int) : Int) < ((m.length : Nat) : Int)) (fun F => ?_) (fun F => ?_)
 ·
  have hil := hl (m[i]) (List.getElem_mem (by omega))
  have hib : i * l ≤ 255 * 65536 := Nat.mul_le_mul (by omega) hl2
  have his : (i + 1) * l = i * l + l := Nat.succ_mul i l
  refine uR 4 [.c [2, 0, 1, 0, 0, 2, 0, 0, 0], .c [2, 0, 1, 0, 0, 2, 0, 0, 1], .b 1, .c [2, 0, 1, 0, 0, 3], .l [2, 0, 1, 0, 0], .b 0, .c [3]] ?_
  refine qG (sq 0 3) ?_
  have y : i < m.length := by omega
  refine uX 42 (i : Int) H 0 rfl i (by omega) (List.getElem?_eq_getElem y) ?_
  intro _ _ _ r H
  obtain ⟨_, _, rfl⟩ := Shape.slice_form' r
  have H := H.addR r
  refine uV 62 0 (H.fc 1 rfl) ?_
  refine uF 1 ?_
  refine uR 1 [.c [2, 0, 1, 0, 0, 2, 0, 0, 1, 0], .c [2, 0, 1, 0, 0, 2, 0, 0, 2], .b 1, .c [2, 0, 1, 0, 0, 3], .l [2, 0, 1, 0, 0], .b 0, .c [3]] ?_
  refine qG (sq 0 5) ?_
  refine uP 3 ?_
  refine uI (((i * l : Nat) : Int) + (((m[i]).length : Nat) : Int)) ?_
  refine uF 1 ?_
  refine uR 2 [.c [2, 0, 1, 0, 0, 2, 0, 0, 3], .b 1, .c [2, 0, 1, 0, 0, 3], .l [2, 0, 1, 0, 0], .b 0, .c [3]] ?_
  refine qD ((((i * l : Nat) : Int) + (((m[i]).length : Nat) : Int) : Int) < 0) (fun z => ?_) (fun z => ?_)
  ·
   omega
  ·
   refine uR 2 [.c [2, 0, 1, 0, 0, 3], .l [2, 0, 1, 0, 0], .b 0, .c [3]] ?_
   refine qG (sq 0 2) ?_
   refine uI ((i : Int) + 1) ?_
   refine qF 1 [(0, .slice a m.length k), (3, .I (((i * l : Nat) : Int) + (((m[i]).length : Nat) : Int))), (9, .slice a m.length k), (10, .I ((m.length : Nat) : Int)), (11, .I ((i : Int) + 1))] ?_
   have H := H.pick [2] rfl
   exact WK.back (o (i + 1) _ ⟨H, by omega⟩ (by first | omega | (simp only []; omega))) (by rw [his, hil]; simp)
 ·
  have hib : i * l ≤ 255 * 65536 := Nat.mul_le_mul (by omega) hl2
  refine uR 2 [.c [3, 0], .c [4]] ?_
  refine qG (sq 0 3) ?_
  refine uP 1 ?_
  refine uK (grow_spec (S := Av S w [] (idsOf [] [])) (n := i * l) (by omega)) ?_
  rintro _ _ - H'
  have H := H.back (M1 := []) (W1 := []) H'
  obtain ⟨d, e, rfl, _, _⟩ := H.ownForm 0 rfl
  have H : Hp w S [] [] [⟨Sb, 5, .slice d (([] : List (BitVec 8)).length) e, ([] : List (BitVec 8))⟩] [_] _ := H
  refine uF 1 ?_
  refine qR 4 [.c [4, 0, 1, 0], .b 2, .c [5]] [(6, .slice d (([] : List (BitVec 8)).length) e), (25, .slice a m.length k), (26, .I ((m.length : Nat) : Int)), (27, .I 0)] ?_
  have H := H.drop (M' := []) (W' := [⟨Sb, 5, .slice d (catTo m 0).length e, catTo m 0⟩]) (by repeat (first | exact List.Sublist.refl _ | exact List.nil_sublist _ | apply List.Sublist.cons_cons | apply List.Sublist.cons)) (by repeat (first | exact List.Sublist.refl _ | exact List.nil_sublist _ | apply List.Sublist.cons_cons | apply List.Sublist.cons))
  refine uL (α := Nat × Option Addr × Nat) (g := 67) (p := [4, 0, 1, 0, 0]) (fun (j, ao, co) => [(6, .slice ao (catTo m j).length co), (25, .slice a m.length k), (26, .I ((m.length : Nat) : Int)), (27, .I j)]) (fun (j, ao, co) w' => Hp w S [] [] [⟨Sb, 5, .slice ao (catTo m j).length co, catTo m j⟩] [Rp (Shape.slice SB) [.slice a m.length k] m] w' ∧ j ≤ m.length) (fun (j, ao, co) => m.length - j) (0, d, e) ⟨H, Nat.zero_le _⟩ ?_
  rintro ⟨j, ao, co⟩ _ ⟨H, _⟩ f
  refine uR 3 [.c [4, 0, 1, 0, 0, 1, 0], .c [4, 0, 1, 0, 0, 2], .l [4, 0, 1, 0, 0], .b 2, .c [5]] ?_
  refine qD (((j : Int) : Int) < ((m.length : Nat) : Int)) (fun A => ?_) (fun A => ?_)
  ·
   have hil := hl (m[j]) (List.getElem_mem (by omega))
   have hcl := catTo_len (m := m) hl (show j ≤ m.length by omega)
   have hjb : j * l ≤ 255 * 65536 := Nat.mul_le_mul (by omega) hl2
   refine uR 4 [.c [4, 0, 1, 0, 0, 2, 0, 0, 0], .c [4, 0, 1, 0, 0, 2, 0, 0, 1], .b 3, .c [4, 0, 1, 0, 0, 3], .l [4, 0, 1, 0, 0], .b 2, .c [5]] ?_
   refine qG (sq 0 3) ?_
   have u : j < m.length := by omega
   refine uX 42 (j : Int) H 0 rfl j (by omega) (List.getElem?_eq_getElem u) ?_
   intro B C _ q H
   obtain ⟨D, E, rfl⟩ := Shape.slice_form' q
   have H := H.addR q
   refine uV 62 0 (H.fc 1 rfl) ?_
   refine uF 1 ?_
   refine qG (sq 0 4) ?_
   refine uP 2 ?_
   refine uA 62 62 1 (catTo m (j + 1)) H 0 rfl 0 rfl (catTo_succ (by omega)) (by rw [← catTo_succ (by omega), List.length_append]; omega) ?_
   intro s t _ H _
   have H : Hp w S [] [] [⟨Sb, 5, .slice s ((catTo m (j + 1)).length) t, catTo m (j + 1)⟩] [_, Fc B C [.slice D (m[j]).length E], _] _ := H
   refine uF 1 ?_
   refine uR 1 [.c [4, 0, 1, 0, 0, 3], .l [4, 0, 1, 0, 0], .b 2, .c [5]] ?_
   refine qG (sq 0 2) ?_
   refine uI ((j : Int) + 1) ?_
   refine uF 1 ?_
   have H := H.pick [2] rfl
   exact uB (f (j + 1, s, t) _ ⟨H, by omega⟩ (by first | omega | (simp only []; omega)))
  ·
   refine uR 3 [.c [6]] ?_
   refine qT (.slice ao (catTo m j).length co) Tryz.func67 ?_
   have hje : j = m.length := by omega
   rw [hje, catTo_all] at H
   have H := H.drop (M' := []) (W' := [_]) (List.nil_sublist _) (List.cons_sublist_cons.2 (List.nil_sublist _))
   exact ⟨_, rfl, H.done, by rw [hje, catTo_all]; exact H.pick [] rfl⟩
end Go.Proofs.YtppcdmbkgficiaaGreat
