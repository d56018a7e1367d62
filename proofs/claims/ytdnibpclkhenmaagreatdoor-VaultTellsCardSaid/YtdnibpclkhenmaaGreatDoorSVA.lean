import Derived.Test.YtdnibpclkhenmaaGreatDoorSBxB
import Derived.Test.YtdnibpclkhenmaaGreatDoorSV8
import Derived.Shelf.SlSortCmp.WholeK
import Derived.Shelf.SlGeneric
namespace Go.Proofs.YtdnibpclkhenmaaGreatDoor
open Go.BX
open Go.Proofs
def cmpI (x y : Int) : Int := if x < y then -1 else if y < x then 1 else 0
theorem isnan_i64 {S : Nat → Prop} {w : World} (x : Int) :
 Calls Tryz.prog 154 #[.I x] w (Ret fun v w' => Ext w w' ∧ w' = w ∧ v = .bool false) := by
 refine uS1 Tryz.func154 ?_
 have H := Hp.startF (w := w) (S := S) (G := []) .nil
 refine uR 4 [.c [2]] ?_
 refine qT (.bool (x != x)) Tryz.func154 ?_
 refine ⟨_, rfl, H.done, rfl, ?_⟩
 congr 1
 simp
theorem compare_i64 {S : Nat → Prop} {w : World} (x y : Int) :
 Calls Tryz.prog 102 #[.I x, .I y] w (Ret fun v w' => Ext w w' ∧ w' = w ∧ v = .I (cmpI x y)) := by
 refine uS1 Tryz.func102 ?_
 have H := Hp.startF (w := w) (S := S) (G := []) .nil
 refine uR 3 [.c [1, 0], .c [2]] ?_
 refine qG (sq 0 3) ?_
 refine uP 1 ?_
 refine uK (isnan_i64 (S := fun _ => True) x) ?_
 rintro _ _ - ⟨rfl, rfl⟩
 refine uF 1 ?_
 refine uR 1 [.c [2, 0], .c [3]] ?_
 refine qG (sq 0 3) ?_
 refine uP 1 ?_
 refine uK (isnan_i64 (S := fun _ => True) y) ?_
 rintro _ _ - ⟨rfl, rfl⟩
 refine uF 1 ?_
 refine uR 13 [.c [5, 0, 1], .c [6]] ?_
 refine qD ((x : Int) < y) (fun a => ?_) (fun a => ?_)
 ·
  refine uR 2 [.c [5, 0, 1, 0, 1], .c [6]] ?_
  refine qT (.I (-1)) Tryz.func102 ?_
  refine ⟨_, rfl, H.done, rfl, ?_⟩
  congr 1
  unfold cmpI
  first | rw [if_pos (by omega)] | rw [if_neg (by omega), if_pos (by omega)] | rw [if_neg (by omega), if_neg (by omega)]
 ·
  refine uR 4 [.c [6, 0, 1], .c [7]] ?_
  refine qD ((x : Int) > y) (fun b => ?_) (fun b => ?_)
  ·
   refine uR 2 [.c [6, 0, 1, 0, 1], .c [7]] ?_
   refine qT (.I 1) Tryz.func102 ?_
   refine ⟨_, rfl, H.done, rfl, ?_⟩
   congr 1
   unfold cmpI
   first | rw [if_pos (by omega)] | rw [if_neg (by omega), if_pos (by omega)] | rw [if_neg (by omega), if_neg (by omega)]
  ·
   refine qR 3 [.c [8]] [(4, .I 0)] ?_
   refine qT (.I 0) Tryz.func102 ?_
   refine ⟨_, rfl, H.done, rfl, ?_⟩
   congr 1
   unfold cmpI
   first | rw [if_pos (by omega)] | rw [if_neg (by omega), if_pos (by omega)] | rw [if_neg (by omega), if_neg (by omega)]
theorem isnan_u64 {S : Nat → Prop} {w : World} (x : Int) :
 Calls Tryz.prog 153 #[.int .u64 x] w (Ret fun v w' => Ext w w' ∧ w' = w ∧ v = .bool false) := by
 refine uS1 Tryz.func153 ?_
 have H := Hp.startF (w := w) (S := S) (G := []) .nil
 refine uR 4 [.c [2]] ?_
 refine qT (.bool (x != x)) Tryz.func153 ?_
 refine ⟨_, rfl, H.done, rfl, ?_⟩
 congr 1
 simp
theorem compare_u64 {S : Nat → Prop} {w : World} (x y : Int) :
 Calls Tryz.prog 101 #[.int .u64 x, .int .u64 y] w (Ret fun v w' => Ext w w' ∧ w' = w ∧ v = .I (cmpI x y)) := by
 refine uS1 Tryz.func101 ?_
 have H := Hp.startF (w := w) (S := S) (G := []) .nil
 refine uR 3 [.c [1, 0], .c [2]] ?_
 refine qG (sq 0 3) ?_
 refine uP 1 ?_
 refine uK (isnan_u64 (S := fun _ => True) x) ?_
 rintro _ _ - ⟨rfl, rfl⟩
 refine uF 1 ?_
 refine uR 1 [.c [2, 0], .c [3]] ?_
 refine qG (sq 0 3) ?_
 refine uP 1 ?_
 refine uK (isnan_u64 (S := fun _ => True) y) ?_
 rintro _ _ - ⟨rfl, rfl⟩
 refine uF 1 ?_
 refine uR 13 [.c [5, 0, 1], .c [6]] ?_
 refine qD ((x : Int) < y) (fun a => ?_) (fun a => ?_)
 ·
  refine uR 2 [.c [5, 0, 1, 0, 1], .c [6]] ?_
  refine qT (.I (-1)) Tryz.func101 ?_
  refine ⟨_, rfl, H.done, rfl, ?_⟩
  congr 1
  unfold cmpI
  first | rw [if_pos (by omega)] | rw [if_neg (by omega), if_pos (by omega)] | rw [if_neg (by omega), if_neg (by omega)]
 ·
  refine uR 4 [.c [6, 0, 1], .c [7]] ?_
  refine qD ((x : Int) > y) (fun b => ?_) (fun b => ?_)
  ·
   refine uR 2 [.c [6, 0, 1, 0, 1], .c [7]] ?_
   refine qT (.I 1) Tryz.func101 ?_
   refine ⟨_, rfl, H.done, rfl, ?_⟩
   congr 1
   unfold cmpI
   first | rw [if_pos (by omega)] | rw [if_neg (by omega), if_pos (by omega)] | rw [if_neg (by omega), if_neg (by omega)]
  ·
   refine qR 3 [.c [8]] [(4, .I 0)] ?_
   refine qT (.I 0) Tryz.func101 ?_
   refine ⟨_, rfl, H.done, rfl, ?_⟩
   congr 1
   unfold cmpI
   first | rw [if_pos (by omega)] | rw [if_neg (by omega), if_pos (by omega)] | rw [if_neg (by omega), if_neg (by omega)]
def orI : List Int → Int
 | [] => 0
 | x :: l => if x ≠ 0 then x else orI l
theorem or_same {S : Nat → Prop} {w : World} {xs : List Int} {a : Option Addr} {c : Nat} (h : (Shape.slice (Shape.int .i64)).rep S w [.slice a xs.length c] xs) :
 Calls Tryz.prog 100 #[.slice a xs.length c] w (Ret fun v w' => Ext w w' ∧ w' = w ∧ v = .I (orI xs)) := by
 have hxl := Shape.slice_len h
 refine uS1 Tryz.func100 ?_
 have H := Hp.startF (.rp h .nil)
 refine uR 8 [.c [2, 0, 1, 0], .b 0, .c [3]] ?_
 refine uL (α := Nat) (g := 100) (p := [2, 0, 1, 0, 0]) (fun i => [(3, .I 0), (6, .slice a xs.length c), (7, .I ((xs.length : Nat) : Int)), (8, .I i)]) (fun i w' => Hp w S [] [] [] [Rp (Shape.slice (Shape.int .i64)) [.slice a xs.length c] xs] w' ∧ i ≤ xs.length ∧ w' = w ∧ orI (xs.drop i) = orI xs) (fun i => xs.length - i) 0 ⟨H, by omega, rfl, rfl⟩ ?_
 rintro i _ ⟨H, f⟩ d
 obtain ⟨_, rfl, e⟩ := f
 refine uR 3 [.c [2, 0, 1, 0, 0, 1, 0], .c [2, 0, 1, 0, 0, 2], .l [2, 0, 1, 0, 0], .b 0, .c [3]] ?_
 refine qD (((i : Int) : Int) < ((xs.length : Nat) : Int)) (fun n => ?_) (fun n => ?_)
 ·
  refine uR 4 [.c [2, 0, 1, 0, 0, 2, 0, 0, 0], .c [2, 0, 1, 0, 0, 2, 0, 0, 1], .b 1, .c [2, 0, 1, 0, 0, 3], .l [2, 0, 1, 0, 0], .b 0, .c [3]] ?_
  refine qG (sq 0 3) ?_
  have k : i < xs.length := by omega
  refine uX 59 (i : Int) H 0 rfl i (by omega) (List.getElem?_eq_getElem k) ?_
  intro _ _ _ j H
  have o := Shape.i64_bd j
  obtain ⟨rfl, -⟩ := j
  refine uV 3 0 (H.fc 0 rfl) ?_
  refine uF 1 ?_
  refine uR 2 [.c [2, 0, 1, 0, 0, 2, 0, 0, 2], .b 1, .c [2, 0, 1, 0, 0, 3], .l [2, 0, 1, 0, 0], .b 0, .c [3]] ?_
  refine qN (xs[i]) 0 (fun m => ?_) (fun m => ?_)
  ·
   refine uR 2 [.c [2, 0, 1, 0, 0, 2, 0, 0, 2, 0, 1], .b 1, .c [2, 0, 1, 0, 0, 3], .l [2, 0, 1, 0, 0], .b 0, .c [3]] ?_
   refine qT (.I (xs[i])) Tryz.func100 ?_
   refine ⟨_, rfl, H.done, rfl, ?_⟩
   congr 1
   rw [← e, List.drop_eq_getElem_cons (show i < xs.length by omega)]
   unfold orI
   rw [if_pos (by assumption)]
  ·
   refine uR 2 [.c [2, 0, 1, 0, 0, 3], .l [2, 0, 1, 0, 0], .b 0, .c [3]] ?_
   refine qG (sq 0 2) ?_
   refine uI ((i : Int) + 1) ?_
   refine uF 1 ?_
   have H := H.pick [1] rfl
   exact uB (d (i + 1) _ ⟨H, by omega, rfl, by rw [← e, List.drop_eq_getElem_cons (show i < xs.length by omega)]; simp_all [orI]⟩ (by first | omega | (simp only []; omega)))
 ·
  refine uR 3 [.c [4]] ?_
  refine qT (.I 0) Tryz.func100 ?_
  refine ⟨_, rfl, H.done, rfl, ?_⟩
  congr 1
  rw [← e, List.drop_of_length_le (by omega)]; rfl
theorem cmpI_bd (x y : Int) : -1 ≤ cmpI x y ∧ cmpI x y ≤ 1 := by
 unfold cmpI
 split
 · omega
 · split <;> omega
theorem cmp_same {S : Nat → Prop} {w : World} (x1 x2 x3 y1 y2 y3 : Int) :
 Calls Tryz.prog 99 #[.agg #[.int .u64 x1, .I x2, .int .u64 x3], .agg #[.int .u64 y1, .I y2, .int .u64 y3]] w (Ret fun v w' => v = .I (orI [cmpI x1 y1, cmpI x2 y2, cmpI x3 y3]) ∧ Gr w w') := by
 have hG := Gr.refl w
 have k := cmpI_bd x1 y1
 have l := cmpI_bd x2 y2
 have m := cmpI_bd x3 y3
 refine uS1 Tryz.func99 ?_
 have H := Hp.startF (w := w) (S := S) (G := []) .nil
 refine uR 1 [.c [0], .c [1]] ?_
 refine qG (sq 0 3) ?_
 refine RW.newG (κ := .seq) (d := some 2) (r := (sq 1 3)) (o := .cells #[.int .u64 x1, .I x2, .int .u64 x3] 82 (0, 0)) (v := fun b => .P b 0) (fun b => by as_aux_lemma => kernel_rfl) (nofun) H ?_
 intro h _ e H; have hG := hG.new e
 refine RW.newG (κ := .seq) (d := some 3) (r := (sq 2 3)) (o := .cells #[.int .u64 y1, .I y2, .int .u64 y3] 82 (0, 0)) (v := fun b => .P b 0) (fun b => by as_aux_lemma => kernel_rfl) (nofun) H ?_
 intro i g f H; have hG := hG.new f
 refine uF 1 ?_
 refine uR 1 [.c [1, 0], .c [2]] ?_
 refine WK.draw1 18 [(0, .qui), (1, .qui), (2, .qui), (3, .qui), (5, .qui), (6, .qui), (7, .qui), (8, .qui), (10, .qui), (11, .qui), (12, .qui), (13, .qui), (4, .chn), (9, .chn), (14, .chn), (15, .chn), (16, .chn), (17, .qui)] [(0, .qui), (1, .qui), (2, .qui), (3, .qui), (5, .qui), (6, .qui), (7, .qui), (8, .qui), (10, .qui), (11, .qui), (12, .qui), (13, .qui), (4, .chn), (9, .chn), (14, .chn), (15, .chn), (16, .chn), (17, .qui)] Tryz_mixed (by as_aux_lemma => kernel_rfl) (by as_aux_lemma => kernel_rfl) (by as_aux_lemma => kernel_rfl) ?_
 have H := H.draw
 have hG := hG.draw; generalize ({ g with drawn := g.drawn + 1 } : World) = w5 at H hG ⊢
 refine uP 1 ?_
 refine uV 58 0 (H.cells 1 rfl) ?_
 refine uP 1 ?_
 refine uV 58 0 (H.cells 0 rfl) ?_
 refine uP 1 ?_
 refine uV 3 1 (H.cells 1 rfl) ?_
 refine uP 1 ?_
 refine uV 3 1 (H.cells 0 rfl) ?_
 refine uP 1 ?_
 refine uV 58 2 (H.cells 1 rfl) ?_
 refine uP 1 ?_
 refine uV 58 2 (H.cells 0 rfl) ?_
 refine uK (compare_u64 (S := fun _ => True) x1 y1) ?_
 rintro _ _ - ⟨rfl, rfl⟩
 refine uK (compare_i64 (S := fun _ => True) x2 y2) ?_
 rintro _ _ - ⟨rfl, rfl⟩
 refine uK (compare_u64 (S := fun _ => True) x3 y3) ?_
 rintro _ _ - ⟨rfl, rfl⟩
 refine RW.newG (κ := .chn) (d := some 20) (r := [(16, .chn), (17, .qui)]) (o := .cells #[.I (cmpI x1 y1), .I (cmpI x2 y2), .I (cmpI x3 y3)] 3 (0, 0)) (v := fun b => .slice (some ⟨b, 0, none⟩) 3 3) (fun b => by as_aux_lemma => kernel_rfl) (nofun) H ?_
 intro j _ a H; have hG := hG.new a
 have H := H.freeze 0 rfl (Shape.int .i64) ([cmpI x1 y1, cmpI x2 y2, cmpI x3 y3] : List Int) 3 (by simp [maxLen]) (by first | exact Nat.le_refl _ | simp) (EsP.cons (c := [.I (cmpI x1 y1)]) i64a (EsP.cons (c := [.I (cmpI x2 y2)]) i64a (EsP.cons (c := [.I (cmpI x3 y3)]) i64a EsP.nil)))
 have H : Hp w S [] [(i, .cells #[.int .u64 y1, .I y2, .int .u64 y3] 82 (0, 0)), (h, .cells #[.int .u64 x1, .I x2, .int .u64 x3] 82 (0, 0))] [] [Rp (Shape.slice (Shape.int .i64)) [.slice (some ⟨j, 0, none⟩) 3 3] ([cmpI x1 y1, cmpI x2 y2, cmpI x3 y3] : List Int)] _ := H
 refine uK (or_same (xs := ([cmpI x1 y1, cmpI x2 y2, cmpI x3 y3] : List Int)) (H.rp 0 rfl)) ?_
 rintro _ _ - ⟨rfl, rfl⟩
 refine uF 1 ?_
 refine qT (.I (orI ([cmpI x1 y1, cmpI x2 y2, cmpI x3 y3] : List Int))) Tryz.func99 ?_
 exact ⟨_, rfl, rfl, hG⟩
def Tryz.sortCid_ren : Go.Shelf.Ren := ⟨fun | 6 => 151 | 14 => 193 | 15 => 194 | 20 => 232 | 21 => 233 | 22 => 234 | 23 => 235 | 24 => 236 | 25 => 237 | 26 => 238 | 27 => 239 | 28 => 240 | 29 => 241 | 46 => 274 | 47 => 275 | 48 => 276 | 49 => 277 | 50 => 278 | 57 => 305 | n => n, fun | 0 => 0 | 3 => 3 | 4 => 4 | 5 => 5 | 9 => 9 | 22 => 110 | 24 => 82 | 25 => 186 | 39 => 238 | 45 => 363 | 46 => 364 | 50 => 191 | 53 => 80 | 55 => 58 | 66 => 403 | 70 => 406 | 76 => 430 | 77 => 431 | n => n, fun | n => n⟩
theorem Tryz.sortCid : Go.Proofs.SlLaysF0.n6 Tryz.prog Tryz.sortCid_ren := {
 mixed := by kernel_rfl
 f6 := ⟨Tryz.f151.name, by decide, Tryz.func151.trans (congrArg some (by kernel_rfl))⟩
 f14 := ⟨Tryz.f193.name, by decide, Tryz.func193.trans (congrArg some (by kernel_rfl))⟩
 f15 := Tryz.func194.trans (congrArg some (by kernel_rfl))
 f20 := ⟨Tryz.f232.name, by decide, Tryz.func232.trans (congrArg some (by kernel_rfl))⟩
 f21 := ⟨Tryz.f233.name, by decide, Tryz.func233.trans (congrArg some (by kernel_rfl))⟩
 f22 := ⟨Tryz.f234.name, by decide, Tryz.func234.trans (congrArg some (by kernel_rfl))⟩
 f23 := ⟨Tryz.f235.name, by decide, Tryz.func235.trans (congrArg some (by kernel_rfl))⟩
 f24 := ⟨Tryz.f236.name, by decide, Tryz.func236.trans (congrArg some (by kernel_rfl))⟩
 f25 := ⟨Tryz.f237.name, by decide, Tryz.func237.trans (congrArg some (by kernel_rfl))⟩
 f26 := ⟨Tryz.f238.name, by decide, Tryz.func238.trans (congrArg some (by kernel_rfl))⟩
 f27 := ⟨Tryz.f239.name, by decide, Tryz.func239.trans (congrArg some (by kernel_rfl))⟩
 f28 := Tryz.func240.trans (congrArg some (by kernel_rfl))
 f29 := Tryz.func241.trans (congrArg some (by kernel_rfl))
 f46 := ⟨Tryz.f274.name, by decide, Tryz.func274.trans (congrArg some (by kernel_rfl))⟩
 f47 := Tryz.func275.trans (congrArg some (by kernel_rfl))
 f48 := Tryz.func276.trans (congrArg some (by kernel_rfl))
 f49 := ⟨Tryz.f277.name, by decide, Tryz.func277.trans (congrArg some (by kernel_rfl))⟩
 f50 := ⟨Tryz.f278.name, by decide, Tryz.func278.trans (congrArg some (by kernel_rfl))⟩
 f57 := ⟨Tryz.f305.name, by decide, Tryz.func305.trans (congrArg some (by kernel_rfl))⟩
 t0 := Tryz.underlying0
 a0 := Tryz.isAgg0
 z0 := Tryz.sizeOf0
 v0 := Tryz.zeroValue0
 t3 := Tryz.underlying3
 a3 := Tryz.isAgg3
 z3 := Tryz.sizeOf3
 v3 := Tryz.zeroValue3
 t4 := Tryz.underlying4
 a4 := Tryz.isAgg4
 z4 := Tryz.sizeOf4
 v4 := Tryz.zeroValue4
 t5 := Tryz.underlying5
 a5 := Tryz.isAgg5
 z5 := Tryz.sizeOf5
 v5 := Tryz.zeroValue5
 t9 := Tryz.underlying9
 a9 := Tryz.isAgg9
 z9 := Tryz.sizeOf9
 v9 := Tryz.zeroValue9
 t22 := Tryz.underlying110
 a22 := Tryz.isAgg110
 z22 := Tryz.sizeOf110
 v22 := Tryz.zeroValue110
 t25 := Tryz.underlying186
 a25 := Tryz.isAgg186
 z25 := Tryz.sizeOf186
 v25 := Tryz.zeroValue186
 t39 := Tryz.underlying238
 a39 := Tryz.isAgg238
 z39 := Tryz.sizeOf238
 v39 := Tryz.zeroValue238
 t45 := Tryz.underlying363
 a45 := Tryz.isAgg363
 z45 := Tryz.sizeOf363
 v45 := Tryz.zeroValue363
 t46 := Tryz.underlying364
 a46 := Tryz.isAgg364
 z46 := Tryz.sizeOf364
 v46 := Tryz.zeroValue364
 t50 := Tryz.underlying191
 a50 := Tryz.isAgg191
 z50 := Tryz.sizeOf191
 v50 := Tryz.zeroValue191
 t53 := Tryz.underlying80
 a53 := Tryz.isAgg80
 z53 := Tryz.sizeOf80
 v53 := Tryz.zeroValue80
 t55 := Tryz.underlying58
 a55 := Tryz.isAgg58
 z55 := Tryz.sizeOf58
 v55 := Tryz.zeroValue58
 t66 := Tryz.underlying403
 a66 := Tryz.isAgg403
 z66 := Tryz.sizeOf403
 v66 := Tryz.zeroValue403
 t70 := Tryz.underlying406
 a70 := Tryz.isAgg406
 z70 := Tryz.sizeOf406
 v70 := Tryz.zeroValue406
 t76 := Tryz.underlying430
 a76 := Tryz.isAgg430
 z76 := Tryz.sizeOf430
 v76 := Tryz.zeroValue430
 t77 := Tryz.underlying431
 a77 := Tryz.isAgg431
 z77 := Tryz.sizeOf431
 v77 := Tryz.zeroValue431 }
instance : Inhabited CID := ⟨⟨0, 0, 0⟩⟩
def cmpT (x y : CID) : Int := orI [cmpI x.version y.version, cmpI x.index y.index, cmpI x.epoch y.epoch]
def ltT (x y : CID) : Bool := decide (x.version < y.version ∨ x.version = y.version ∧ (x.index < y.index ∨ x.index = y.index ∧ x.epoch < y.epoch))
theorem cmpI_lt (x y : Int) : (cmpI x y < 0 ↔ x < y) ∧ (cmpI x y = 0 ↔ x = y) := by
 unfold cmpI
 split
 · omega
 · split <;> omega
theorem ltOf_cmpT (x y : CID) : Go.Proofs.ltOf cmpT x y = ltT x y := by
 unfold Go.Proofs.ltOf ltT cmpT
 congr 1
 rw [eq_iff_iff]
 obtain ⟨_, _⟩ := cmpI_lt x.version y.version
 obtain ⟨_, _⟩ := cmpI_lt x.index y.index
 obtain ⟨_, _⟩ := cmpI_lt x.epoch y.epoch
 simp only [orI]
 split
 · omega
 · split
   · omega
   · split <;> omega
theorem cmpT_swo : Go.Sort.SWO (Go.Proofs.ltOf cmpT) where
 irrefl x := by rw [ltOf_cmpT]; exact decide_eq_false (by omega)
 trans x y z h1 h2 := by rw [ltOf_cmpT] at *; have h1 := of_decide_eq_true h1; have h2 := of_decide_eq_true h2; exact decide_eq_true (by omega)
 ntrans x y z h1 h2 := by rw [ltOf_cmpT] at *; have h1 := of_decide_eq_false h1; have h2 := of_decide_eq_false h2; exact decide_eq_false (by omega)
theorem cmpT_lays (blk off size : Nat) (w : World) : Go.Proofs.CmpLays Tryz.prog 99 #[] cidC 3 cmpT blk off size w :=
 fun m os dk _ x y => (cmp_same (S := fun _ => True) x.version x.index x.epoch y.version y.index y.epoch).mono fun e w' h => by
  obtain ⟨v, he, hv, q, os', hw⟩ := h
  exact ⟨he.trans (by rw [hv]; rfl), q, os', hw⟩
theorem cid_enc {S : Nat → Prop} {w : World} {x : CID} {cs : List Value} (h : cidS.rep S w cs x) : cs = cidC x := by
 obtain ⟨rfl, _, _, _⟩ := cid_open h
 rfl
theorem sort_cid {S : Nat → Prop} {w : World} {O : List Nat} {b cap : Nat} {xs : List CID} (H0 : Hp w S O [] [⟨cidS, 82, .slice (some ⟨b, 0, none⟩) xs.length cap, xs⟩] [] w) (hp : 0 < xs.length) (hsz : xs.length < 4611686018427387904) :
 Calls Tryz.prog 151 #[.slice (some ⟨b, 0, none⟩) xs.length cap, .func (.func 99) #[] #[]] w (Ret fun v w' => v = .tuple #[] ∧ ∃ ys : List CID, ys.Perm xs ∧ Hp w S O [] [⟨cidS, 82, .slice (some ⟨b, 0, none⟩) xs.length cap, ys⟩] [] w') := by
 obtain ⟨hH, hb⟩ := H0.holdsK (enc := cidC) (k := 3) rfl (by decide) (fun _ _ _ _ h => cid_enc h) hp
 have eg : ∀ args w, (callFunc 99 args).run Tryz.prog w = .ok (.enter 99 args) w := Go.Proofs.enters_of Tryz.func99 (by kernel_rfl) rfl
 have h := Go.Proofs.AnyQ.slices_SortFunc Tryz.sortCid 3 (fun w => Tryz.isAgg82 w) (fun w => Tryz.sizeOf82 w) cidC (fun _ => rfl) (fun x v hv => by simp [cidC] at hv; rcases hv with rfl | rfl | rfl <;> rfl) cmpT cmpT_swo 99 #[] b 0 cap xs.toArray w eg (cmpT_lays b 0 _ w) hH hb (by simpa using hsz)
 change Calls Tryz.prog 151 _ _ _ at h
 simp only [List.size_toArray] at h
 refine h.mono fun e w' hh => ?_
 obtain ⟨he, d', n, os, hperm, hsort, rfl⟩ := hh
 have hd : d'.toList.Perm xs := by
  have a := hperm.2.2
  have c : d'.size = xs.length := by simpa using hperm.1
  rw [show d'.extract 0 xs.length = d' by rw [← c]; simp, show xs.toArray.extract 0 xs.length = xs.toArray by simp] at a
  simpa using a
 exact ⟨_, he, rfl, d'.toList, hd, H0.sortedK (enc := cidC) (k := 3) rfl (by decide) (fun _ _ _ _ h => cid_enc h) (fun _ => rfl) hp hd⟩
theorem flat_len (ss : List CID) : (ss.flatMap cidC).length = ss.length * 3 := by
 induction ss with
 | nil => rfl
 | cons x l ih => rw [List.flatMap_cons, List.length_append, ih, List.length_cons, Nat.add_mul, Nat.add_comm]; rfl
theorem flat_get : ∀ (ss : List CID) (i : Nat) (x : CID), ss[i]? = some x → ((ss.flatMap cidC).drop (i * 3)).take 3 = cidC x
 | [], i, x, h => by simp at h
 | y :: l, 0, x, h => by
  obtain rfl : y = x := by simpa using h
  rfl
 | y :: l, i + 1, x, h => by
  have h2 := flat_get l i x (by simpa using h)
  rw [List.flatMap_cons, show (i + 1) * 3 = (cidC y).length + i * 3 by rw [Nat.add_mul, Nat.add_comm]; rfl, List.drop_append, List.drop_of_length_le (by omega), List.nil_append]
  rw [show (cidC y).length + i * 3 - (cidC y).length = i * 3 by omega]
  exact h2
theorem cid_of {S : Nat → Prop} {w : World} {x : CID} (h : CidOk x) : cidS.rep S w (cidC x) x := by
 obtain ⟨a, b, c⟩ := h
 exact cid_mk (l0 := [.int .u64 x.version]) (l1 := [.I x.index]) (l2 := [.int .u64 x.epoch]) ⟨rfl, a⟩ ⟨rfl, b⟩ ⟨rfl, c⟩
theorem row_own {w w' : World} {St : Nat → Prop} {v : Value} {ss : List CID} (hE : Ext w w') (hrow : w'.ownsRow w.heap.size 82 3 v ss.length (ss.flatMap cidC)) (hk : ∀ x ∈ ss, CidOk x) : Hp w St [] [] [⟨cidS, 82, v, ss⟩] [] w' := by
 refine ⟨⟨hE.os, hE.tape, hE.output, Go.RowKit.Below.size hE, fun k hk _ => Go.RowKit.Below.block hE k hk⟩, nofun, fun o ho => ?_, ?_, nofun⟩
 · obtain rfl := List.mem_singleton.1 ho
   refine ⟨⟨ss.flatMap cidC, ⟨flat_len ss, ?_⟩, ?_, fun i x hi => ?_⟩, fun b hb => ?_⟩
   · rcases hrow.2 with h | ⟨g, cap, cur, d, a, c⟩
     · exact .inl h
     · exact .inr ⟨g, cap, cur, d, Nat.zero_le _, c⟩
   · intro u hu
     obtain ⟨x, -, hx⟩ := List.mem_flatMap.1 hu
     simp [cidC] at hx
     rcases hx with rfl | rfl | rfl <;> rfl
   · show cidS.rep _ _ (((ss.flatMap cidC).drop (i * 3)).take 3) x
     rw [flat_get ss i x hi]
     exact cid_of (hk x (List.mem_of_getElem? hi))
   · rcases hrow.2 with ⟨rfl, -⟩ | ⟨g, cap, cur, rfl, a, c⟩
     · simp [OwnS.blk] at hb
     · simp [OwnS.blk] at hb
       subst hb
       exact .inl a
 · rcases hrow.2 with ⟨rfl, -⟩ | ⟨g, cap, cur, rfl, a, c⟩ <;> simp [idsOf, OwnS.blk]
theorem len64_0 {S : Nat → Prop} {w : World}  :
 Calls Tryz.prog 241 #[.int .u64 0] w (Ret fun v w' => Ext w w' ∧ v = .I 0) := by
 refine uS1 Tryz.func241 ?_
 have H := Hp.startF (w := w) (S := S) (G := []) .nil
 refine uR 19 [.c [5]] ?_
 refine qT (.I 0) Tryz.func241 ?_
 exact ⟨_, rfl, H.done, rfl⟩
theorem len_0 {S : Nat → Prop} {w : World}  :
 Calls Tryz.prog 194 #[.int .u64 0] w (Ret fun v w' => Ext w w' ∧ v = .I 0) := by
 refine uS1 Tryz.func194 ?_
 have H := Hp.startF (w := w) (S := S) (G := []) .nil
 refine uR 6 [.c [2, 0], .c [3]] ?_
 refine qG (sq 0 3) ?_
 refine uP 1 ?_
 refine uK (len64_0 (S := fun _ => True)) ?_
 rintro _ _ a rfl
 have H := H.ext a
 refine uF 1 ?_
 refine qT (.I 0) Tryz.func194 ?_
 exact ⟨_, rfl, H.done, rfl⟩
theorem ins_0 {S : Nat → Prop} {w : World} {a : Option Addr} {c : Nat} :
 Calls Tryz.prog 232 #[.slice a 0 c, .I 0, .I 0, .func (.func 99) #[] #[]] w (Ret fun v w' => Ext w w' ∧ v = .tuple #[]) := by
 refine uS1 Tryz.func232 ?_
 have H := Hp.startF (w := w) (S := S) (G := []) .nil
 refine uR 3 [.c [1, 0], .b 0] ?_
 refine uL (α := Unit) (g := 232) (p := [1, 0, 0]) (fun _ => [(0, .slice a 0 c), (1, .I 0), (2, .I 0), (3, .func (.func 99) #[] #[]), (8, .I 1)]) (fun _ w' => Hp w S [] [] [] [] w' ∧ True) (fun _ => 0) (()) ⟨H, trivial⟩ ?_
 rintro _ _ ⟨H, _⟩ _
 refine uR 5 [] ?_
 refine WK.fin (v := .tuple #[]) Tryz.func232 (by as_aux_lemma => kernel_rfl) ?_
 exact ⟨_, rfl, H.done, rfl⟩
theorem pdq_0 {S : Nat → Prop} {w : World} {a : Option Addr} {c : Nat} :
 Calls Tryz.prog 193 #[.slice a 0 c, .I 0, .I 0, .I 0, .func (.func 99) #[] #[]] w (Ret fun v w' => Ext w w' ∧ v = .tuple #[]) := by
 refine uS1 Tryz.func193 ?_
 have H := Hp.startF (w := w) (S := S) (G := []) .nil
 refine uR 5 [.c [2, 0], .b 0] ?_
 refine uL (α := Unit) (g := 193) (p := [2, 0, 0]) (fun _ => [(0, .slice a 0 c), (1, .I 0), (2, .I 0), (3, .I 0), (4, .func (.func 99) #[] #[]), (10, .bool true), (11, .bool true)]) (fun _ w' => Hp w S [] [] [] [] w' ∧ True) (fun _ => 0) (()) ⟨H, trivial⟩ ?_
 rintro _ _ ⟨H, _⟩ _
 refine uR 8 [.c [2, 0, 0, 0, 1, 0, 1, 0, 0], .c [2, 0, 0, 0, 1, 0, 1, 0, 1], .c [2, 0, 0, 0, 2], .b 1, .l [2, 0, 0], .b 0] ?_
 refine qG (sq 0 5) ?_
 refine uP 4 ?_
 refine qK .seq (some 30) (sq 5 5) 232 #[.slice a 0 c, .I 0, .I 0, .func (.func 99) #[] #[]] (ins_0 (S := fun _ => True)) ?_
 rintro _ _ d rfl
 have H := H.ext d
 refine uF 0 ?_
 refine qT (.tuple #[]) Tryz.func193 ?_
 exact ⟨_, rfl, H.done, rfl⟩
theorem sort_0 {S : Nat → Prop} {w : World} {a : Option Addr} {c : Nat} :
 Calls Tryz.prog 151 #[.slice a 0 c, .func (.func 99) #[] #[]] w (Ret fun v w' => Ext w w' ∧ v = .tuple #[]) := by
 refine uS1 Tryz.func151 ?_
 have H := Hp.startF (w := w) (S := S) (G := []) .nil
 refine uR 2 [.c [1]] ?_
 refine qG (sq 0 7) ?_
 refine uP 4 ?_
 refine uK (len_0 (S := fun _ => True)) ?_
 rintro _ _ b rfl
 have H := H.ext b
 refine uP 1 ?_
 refine qK .seq (some 13) (sq 7 7) 193 #[.slice a 0 c, .I 0, .I 0, .I 0, .func (.func 99) #[] #[]] (pdq_0 (S := fun _ => True)) ?_
 rintro _ _ d rfl
 have H := H.ext d
 refine uF 0 ?_
 refine WK.fin (v := .tuple #[]) Tryz.func151 (by as_aux_lemma => kernel_rfl) ?_
 exact ⟨_, rfl, H.done, rfl⟩
end Go.Proofs.YtdnibpclkhenmaaGreatDoor
