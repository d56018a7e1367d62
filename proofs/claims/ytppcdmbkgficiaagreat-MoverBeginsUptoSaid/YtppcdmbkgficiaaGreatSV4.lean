import Derived.Test.YtppcdmbkgficiaaGreatSBxB
import Derived.Test.YtppcdmbkgficiaaGreatSV3
namespace Go.Proofs.YtppcdmbkgficiaaGreat
open Go.BX
set_option maxHeartbeats 2000000 in
theorem object22_ok {S : Nat → Prop} {w : World} {xs : List (BitVec 8)} {a : Option Addr} {c : Nat} (h : SB.rep S w [.slice a xs.length c] xs) {k n : Nat} (hs : xs.length ≤ 65536) (hk : 1 ≤ k) (hkn : k ≤ n) (hn : n ≤ 255) :
 Calls Tryz.prog 28 #[.slice a xs.length c, .I k, .I n] w (Ret fun v w' => Ext w w' ∧ ∃ (ds : List Value) (a : Option Addr) (c : Nat), v = .tuple #[.agg ds.toArray, .slice a (chksOf xs k n).length c, .bool true] ∧ objS.rep (Nw S w) w' ds (objOf xs n) ∧ (Shape.slice chkS).rep (Nw S w) w' [.slice a (chksOf xs k n).length c] (chksOf xs k n)) := by
 have hhl : (headsOf ⟨7, 0, 2⟩ xs.length k (enc xs k n)).length = (enc xs k n).length := headsOf_len
 refine uS1 Tryz.func28 ?_
 have H := Hp.startF (.rp h .nil)
 refine uR 1 [.c [0], .c [1]] ?_
 refine qG (sq 0 3) ?_
 refine uC #[.string (⟨#[]⟩), .int .u64 0, .I 0, .int .u32 0, .I 0, .int .u64 0, .slice none 0 0] 26 H ?_
 intro x _ H
 refine uF 2 ?_
 refine uR 1 [.c [1, 0], .c [2]] ?_
 refine qG (sq 0 9) ?_
 refine uP 3 ?_
 refine uK (encode_ok (xs := xs) k n (H.rp 0 rfl) hs hk hkn hn) ?_
 rintro _ _ L ⟨B, C, rfl, M⟩
 have H := H.addM L M
 have hel := enc_len (xs := xs) hkn
 refine uF 5 ?_
 refine uR 1 [.c [2, 0], .c [3]] ?_
 refine qG (sq 0 11) ?_
 refine uP 5 ?_
 refine uK (heads_ok (cs := enc xs k n) (id := ⟨7, 0, 2⟩) xs.length k (H.rp 0 rfl) (cid_mk (Shape.int_mk (by decide)) (Shape.int_mk (by decide)) (Shape.int_mk (by decide))) (by omega) (by omega) (by omega) (by omega) (encD_all)) ?_
 rintro _ _ D ⟨E, f, rfl, F⟩
 have H := H.addM D F
 refine uF 5 ?_
 refine uR 1 [.c [3, 0], .c [4]] ?_
 refine qG (sq 0 7) ?_
 refine uP 3 ?_
 refine uK (crc_spec (H.rp 2 rfl)) ?_
 rintro _ _ G rfl
 have H := H.ext G
 refine qP 1 (sq 5 7) [(2, .I n), (6, .P x 0), (9, .slice B (enc xs k n).length C), (10, .I 0), (11, .slice E ((headsOf (⟨7, 0, 2⟩) xs.length k (enc xs k n)).length) f), (12, .I 0), (36, .agg #[.string (⟨#[97]⟩), .int .u64 7, .I ((xs.length : Nat) : Int), .int .u32 (((crcF xs).toNat : Nat) : Int), .I 0, .int .u64 2, .slice none 0 0])] ?_
 refine uC #[.string (⟨#[]⟩), .int .u64 0, .I 0, .int .u32 0, .I 0, .int .u64 0, .slice none 0 0] 26 H ?_
 intro j _ H
 refine uW 26 0 #[.string (⟨#[97]⟩), .int .u64 7, .I ((xs.length : Nat) : Int), .int .u32 (((crcF xs).toNat : Nat) : Int), .I 0, .int .u64 2, .slice none 0 0] H 0 rfl ?_
 intro _ H
 refine uF 0 ?_
 refine uR 2 [.c [4, 0, 0], .c [4, 0, 1], .c [5]] ?_
 refine qG (sq 0 18) ?_
 refine uP 13 ?_
 refine uN 49 (((enc xs k n).length : Nat) : Int) (n : Int) (fun N => ?_) (fun N => ?_)
 ·
  omega
 ·
  refine uF 5 ?_
  refine qN (((headsOf (⟨7, 0, 2⟩) xs.length k (enc xs k n)).length : Nat) : Int) (n : Int) (fun O => ?_) (fun O => ?_)
  ·
   omega
  ·
   refine uR 7 [.c [6, 0, 1, 0], .b 0, .c [7]] ?_
   have H := (H.ownNil chkS 96).ownNil (Shape.int .i64) 3
   have H : Hp w S [] [_, _] [⟨Shape.int .i64, 3, .slice none (nodesTo 0).length 0, nodesTo 0⟩, ⟨chkS, 96, .slice none (((chksOf xs k n).take 0).length) 0, (chksOf xs k n).take 0⟩] [_, _, _] _ := H
   have H := H.pick [0, 1] rfl
   have H := H.drop (M' := [(j, .cells #[.string (⟨#[97]⟩), .int .u64 7, .I ((xs.length : Nat) : Int), .int .u32 (((crcF xs).toNat : Nat) : Int), .I 0, .int .u64 2, .slice none (nodesTo 0).length 0] 26 (0, 0)), (x, .cells #[.string (⟨#[]⟩), .int .u64 0, .I 0, .int .u32 0, .I 0, .int .u64 0, .slice none 0 0] 26 (0, 0))]) (W' := [⟨Shape.int .i64, 3, .slice none (nodesTo 0).length 0, nodesTo 0⟩, ⟨chkS, 96, .slice none (((chksOf xs k n).take 0).length) 0, (chksOf xs k n).take 0⟩]) (by repeat (first | exact List.Sublist.refl _ | exact List.nil_sublist _ | apply List.Sublist.cons_cons | apply List.Sublist.cons)) (by repeat (first | exact List.Sublist.refl _ | exact List.nil_sublist _ | apply List.Sublist.cons_cons | apply List.Sublist.cons))
   refine uL (α := Nat × Option Addr × Nat × Option Addr × Nat) (g := 28) (p := [6, 0, 1, 0, 0]) (fun (i, ao, co, bo, do_) => [(2, .I n), (6, .P x 0), (9, .slice B (enc xs k n).length C), (11, .slice E ((headsOf (⟨7, 0, 2⟩) xs.length k (enc xs k n)).length) f), (13, .P j 0), (14, .slice bo (((chksOf xs k n).take i).length) do_), (15, .I i)]) (fun (i, ao, co, bo, do_) w' => Hp w S [] [(j, .cells #[.string (⟨#[97]⟩), .int .u64 7, .I ((xs.length : Nat) : Int), .int .u32 (((crcF xs).toNat : Nat) : Int), .I 0, .int .u64 2, .slice ao (nodesTo i).length co] 26 (0, 0)), (x, .cells #[.string (⟨#[]⟩), .int .u64 0, .I 0, .int .u32 0, .I 0, .int .u64 0, .slice none 0 0] 26 (0, 0))] [⟨Shape.int .i64, 3, .slice ao (nodesTo i).length co, nodesTo i⟩, ⟨chkS, 96, .slice bo (((chksOf xs k n).take i).length) do_, (chksOf xs k n).take i⟩] [Rp (Shape.slice hdrS) [.slice E ((headsOf (⟨7, 0, 2⟩) xs.length k (enc xs k n)).length) f] (headsOf (⟨7, 0, 2⟩) xs.length k (enc xs k n)), Rp (Shape.slice SB) [.slice B (enc xs k n).length C] (enc xs k n)] w' ∧ i ≤ n) (fun (i, ao, co, bo, do_) => n - i) (0, none, 0, none, 0) ⟨H, Nat.zero_le _⟩ ?_
   rintro ⟨i, ao, co, bo, do_⟩ _ ⟨H, _⟩ e
   refine uR 3 [.c [6, 0, 1, 0, 0, 0, 1], .c [6, 0, 1, 0, 0, 1], .l [6, 0, 1, 0, 0], .b 0, .c [7]] ?_
   refine qD (((i : Int) : Int) < (n : Int)) (fun Q => ?_) (fun Q => ?_)
   ·
    refine uR 4 [.c [6, 0, 1, 0, 0, 1, 0, 0, 0], .c [6, 0, 1, 0, 0, 1, 0, 0, 1], .b 1, .c [6, 0, 1, 0, 0, 2], .l [6, 0, 1, 0, 0], .b 0, .c [7]] ?_
    refine qG (sq 0 8) ?_
    refine uP 1 ?_
    refine uV 24 6 (H.cells 0 rfl) ?_
    refine uP 1 ?_
    refine uI ((i : Int) + 1) ?_
    refine RW.new (κ := .seq) (d := some 65) (r := (sq 5 8)) (o := .cells #[.I ((i : Int) + 1)] 3 (0, 0)) (v := fun b => .slice (some ⟨b, 0, none⟩) 1 1) (fun b => by as_aux_lemma => kernel_rfl) (nofun) H ?_
    intro R _ H
    have H := H.freeze 0 rfl (Shape.int .i64) ([(i : Int) + 1] : List Int) 1 (by simp [maxLen]) (by first | exact Nat.le_refl _ | simp) (EsP.cons (c := [.I ((i : Int) + 1)]) i64a EsP.nil)
    have H : Hp w S [] [_, _] [_, _] [Rp (Shape.slice (Shape.int .i64)) [.slice (some ⟨R, 0, none⟩) 1 1] ([(i : Int) + 1] : List Int), _, _] _ := H
    refine uA 24 24 8 (nodesTo (i + 1)) H 0 rfl 0 rfl (nodesTo_snoc i) (by rw [nodesTo_len]; omega) ?_
    intro m q _ H _
    have H : Hp w S [] [_, _] [⟨Shape.int .i64, 3, .slice m ((nodesTo (i + 1)).length) q, nodesTo (i + 1)⟩, _] [_, _, _] _ := H
    refine uP 1 ?_
    refine uW 24 6 #[.string (⟨#[97]⟩), .int .u64 7, .I ((xs.length : Nat) : Int), .int .u32 (((crcF xs).toNat : Nat) : Int), .I 0, .int .u64 2, .slice m ((nodesTo (i + 1)).length) q] H 0 rfl ?_
    intro y H
    refine uF 0 ?_
    refine WK.draw1 11 [(0, .qui), (1, .qui), (2, .qui), (3, .qui), (4, .qui), (5, .qui), (6, .qui), (7, .qui), (8, .qui), (9, .qui), (10, .chn)] [(0, .qui), (1, .qui), (2, .qui), (3, .qui), (4, .qui), (5, .qui), (6, .qui), (7, .qui), (8, .qui), (9, .qui), (10, .chn), (11, .seq), (12, .seq)] Try_mixed (by as_aux_lemma => kernel_rfl) (by as_aux_lemma => kernel_rfl) (by as_aux_lemma => kernel_rfl) ?_
    have H := H.draw
    generalize ({ y with drawn := y.drawn + 1 } : World) = a0 at H ⊢
    refine uP 3 ?_
    have Y : i < (headsOf (⟨7, 0, 2⟩) xs.length k (enc xs k n)).length := by omega
    refine uX 41 (i : Int) H 1 rfl i (by omega) (by rw [List.getElem?_eq_getElem (by omega), headsOf_at hkn (by omega)]) ?_
    intro T U _ J H
    obtain ⟨_, rfl, K, _, _, _⟩ := hdr_open J
    obtain ⟨rfl, _, _, _⟩ := cid_open K
    refine uV 84 0 (H.fc 0 rfl) ?_
    refine uP 2 ?_
    have Z : i < (enc xs k n).length := by omega
    refine qX .qui 75 [(8, .qui), (9, .qui), (10, .chn), (11, .seq), (12, .seq)] 42 62 (i : Int) SB (rowAt (enc xs k n) i) H 3 rfl i (by omega) (by rw [List.getElem?_eq_getElem (by omega), rowAt_eq (by omega)]) ?_
    intro V W _ s H
    obtain ⟨t, u, rfl⟩ := Shape.slice_form' s
    have H := H.addR s
    refine uV 62 0 (H.fc 1 rfl) ?_
    refine uP 1 ?_
    refine RW.new (κ := .chn) (d := some 78) (r := [(11, .seq), (12, .seq)]) (o := .cells #[.int .u64 (((hdAt xs k n i).id).version), .I (((hdAt xs k n i).id).index), .int .u64 (((hdAt xs k n i).id).epoch), .I ((hdAt xs k n i).kk), .I ((hdAt xs k n i).nn), .I ((hdAt xs k n i).size), .int .u32 ((((hdAt xs k n i).sum).toNat : Nat) : Int), .slice t ((rowAt (enc xs k n) i).length) u, .bool false] 96 (0, 0)) (v := fun b => .slice (some ⟨b, 0, none⟩) 1 1) (fun b => by as_aux_lemma => kernel_rfl) (nofun) H ?_
    intro X _ H
    have H := H.freeze 0 rfl chkS ([⟨⟨((hdAt xs k n i).id), (hdAt xs k n i).kk, (hdAt xs k n i).nn, (hdAt xs k n i).size, (hdAt xs k n i).sum⟩, (rowAt (enc xs k n) i), false⟩] : List Chk) 1 (by simp [maxLen]) (by first | exact Nat.le_refl _ | simp) (EsP.cons (c := [.int .u64 (((hdAt xs k n i).id).version), .I (((hdAt xs k n i).id).index), .int .u64 (((hdAt xs k n i).id).epoch), .I ((hdAt xs k n i).kk), .I ((hdAt xs k n i).nn), .I ((hdAt xs k n i).size), .int .u32 ((((hdAt xs k n i).sum).toNat : Nat) : Int), .slice t ((rowAt (enc xs k n) i).length) u, .bool false]) (chk_mk (hdr_mk (cid_mk u64a i64a u64a) i64a i64a i64a Shape.bv_mk) (H.rp 0 rfl) Shape.bool_mk) EsP.nil)
    have H : Hp w S [] [_, _] [_, _] [Rp (Shape.slice chkS) [.slice (some ⟨X, 0, none⟩) 1 1] ([⟨⟨((hdAt xs k n i).id), (hdAt xs k n i).kk, (hdAt xs k n i).nn, (hdAt xs k n i).size, (hdAt xs k n i).sum⟩, (rowAt (enc xs k n) i), false⟩] : List Chk), _, Fc V W [.slice t ((rowAt (enc xs k n) i).length) u], Fc T U (hdrV (hdAt xs k n i)), _, _, _] _ := H
    refine uA 90 90 88 ((chksOf xs k n).take (i + 1)) H 1 rfl 0 rfl (chk_snoc (by omega) rfl) (by rw [List.length_take, chksOf_len]; omega) ?_
    intro z A _ H _
    have H : Hp w S [] [_, _] [_, ⟨chkS, 96, .slice z (((chksOf xs k n).take (i + 1)).length) A, (chksOf xs k n).take (i + 1)⟩] [_, _, _, _, _, _, _] _ := H
    refine uF 1 ?_
    refine uR 1 [.c [6, 0, 1, 0, 0, 2], .l [6, 0, 1, 0, 0], .b 0, .c [7]] ?_
    refine qG (sq 0 3) ?_
    refine uP 1 ?_
    refine uI ((i : Int) + 1) ?_
    refine uF 1 ?_
    have H := H.pick [5, 6] rfl
    exact uB (e (i + 1, m, q, z, A) _ ⟨H, by omega⟩ (by first | omega | (simp only []; omega)))
   ·
    refine uR 2 [.c [7, 0], .c [8]] ?_
    refine qG (sq 0 5) ?_
    refine uV 26 0 (H.cells 0 rfl) ?_
    refine uP 1 ?_
    refine uW 26 0 #[.string (⟨#[97]⟩), .int .u64 7, .I ((xs.length : Nat) : Int), .int .u32 (((crcF xs).toNat : Nat) : Int), .I 0, .int .u64 2, .slice ao (nodesTo i).length co] H 1 rfl ?_
    intro _ H
    refine uF 2 ?_
    refine qRB (.tuple #[.agg #[.string (⟨#[97]⟩), .int .u64 7, .I ((xs.length : Nat) : Int), .int .u32 (((crcF xs).toNat : Nat) : Int), .I 0, .int .u64 2, .slice ao (nodesTo i).length co], .slice bo (((chksOf xs k n).take i).length) do_, .bool true]) Tryz.func28 (v3 (.cell 6 26) (.tmp 7) (.tmp 8) (vC (H.cells 1 rfl)) vT vT) ?_
    have H : Hp w S [] [_, _] [_] [Rp (Shape.slice (Shape.int .i64)) [.slice ao (nodesTo i).length co] (nodesTo i), _, _] _ := H.freezeW 0 rfl
    have H : Hp w S [] [_, _] [] [Rp (Shape.slice chkS) [.slice bo (((chksOf xs k n).take i).length) do_] ((chksOf xs k n).take i), _, _, _] _ := H.freezeW 0 rfl
    have hie : i = n := by omega
    subst hie
    have hte : (chksOf xs k i).take i = chksOf xs k i := List.take_of_length_le (by rw [chksOf_len]; exact Nat.le_refl _)
    rw [hte] at H ⊢
    exact ⟨_, rfl, H.done, [.string (⟨#[97]⟩), .int .u64 7, .I ((xs.length : Nat) : Int), .int .u32 (((crcF xs).toNat : Nat) : Int), .I 0, .int .u64 2, .slice ao (nodesTo i).length co], _, _, rfl, H.out (obj_mk (y0 := ⟨#[97]⟩) (y1 := 7) (y2 := ((xs.length : Nat) : Int)) (y3 := crcF xs) (y4 := 0) (y5 := 2) (y6 := nodesTo i) ⟨rfl, by first | assumption | (simp [maxLen]; done) | decide⟩ (Shape.int_mk (by decide)) i64a Shape.bv_mk (Shape.int_mk (by decide)) (Shape.int_mk (by decide)) (H.rp 1 rfl)), H.out (H.rp 0 rfl)⟩
structure Bv (xs : List (BitVec 8)) (k n : Nat) (O : ObjD) (f : Nat → Nat) (r : Rd) (x : Nat) : Prop where
 of : RdOf xs k n r
 ob : r.object = O
 ps : r.pieces = []
 bad : r.bad = (List.range x).map fun j => ((f j : Nat) : Int)
 ll : leftTo r.bad n + x = n
 dn : r.done = if n < k + x then 2 else 0
theorem Bv.len {xs : List (BitVec 8)} {k n : Nat} {O : ObjD} {f : Nat → Nat} {r : Rd} {x : Nat} (h : Bv xs k n O f r x) : r.bad.length = x := by
 rw [h.bad]
 simp
theorem Bv.step {xs : List (BitVec 8)} {k n : Nat} {O : ObjD} {f : Nat → Nat} {r : Rd} {x : Nat} (h : Bv xs k n O f r x) (hx : k + x ≤ n) (hf : f x < n) (hne : ∀ j < x, f j ≠ f x) {frm : Int} {hd : Hdr} {dt : List (BitVec 8)} (hh : hitR r frm hd (f x) = true) : Bv xs k n O f (gotR r frm hd dt false) (x + 1) := by
 have hk := h.of.hk
 have hnb : ¬ ((f x : Nat) : Int) ∈ r.bad := by
  rw [h.bad]
  intro hm
  obtain ⟨j, hj, e⟩ := List.mem_map.1 hm
  exact hne j (List.mem_range.1 hj) (Int.ofNat.inj e)
 have ho : openR r ((f x : Nat) : Int) = true := openR_iff.2 ⟨hnb, by rw [h.ps]; simp⟩
 have hg : ¬ goodR r (f x) hd dt false := fun q => absurd q.1 (by decide)
 rw [gotR_at (waits_of h.of (by rw [h.dn, if_neg (by omega)])) hh, if_pos ho]
 unfold stepR
 rw [if_neg hg]
 have hla : leftTo (r.bad ++ [((f x : Nat) : Int)]) n + 1 = leftTo r.bad n := by
  have := leftTo_add hnb n
  rwa [if_pos hf] at this
 have hll := h.ll
 refine ⟨{ h.of with }, h.ob, h.ps, ?_, ?_, ?_⟩
 · show r.bad ++ [_] = _
   rw [h.bad, List.range_succ, List.map_append]; rfl
 · show leftTo (r.bad ++ [((f x : Nat) : Int)]) n + (x + 1) = n
   omega
 · show judgeR (badR r (f x)) = _
   unfold judgeR
   have a : ((badR r (f x)).pieces.length : Int) = 0 := by
    show ((r.pieces).length : Int) = _
    rw [h.ps]; rfl
   have b : leftTo (badR r (f x)).bad (badR r (f x)).nn.toNat = leftTo (r.bad ++ [((f x : Nat) : Int)]) n := by
    show leftTo (r.bad ++ [((f x : Nat) : Int)]) r.nn.toNat = _
    rw [h.of.nn]; rfl
   have c : (badR r (f x)).kk = (k : Int) := h.of.kk
   rw [a, b, c, if_neg (by omega)]
   by_cases hl2 : n < k + (x + 1)
   · rw [if_pos (by omega), if_pos hl2]
   · rw [if_neg (by omega), if_neg hl2]
theorem Bv.begin {xs : List (BitVec 8)} {k n : Nat} {limit : Int} (f : Nat → Nat) (hk : 1 ≤ k) (hkn : k ≤ n) (hn : n ≤ 255) (hs : xs.length ≤ 65536) : Bv xs k n (objOf xs n) f (beginR (objOf xs n) (k : Int) (n : Int) limit) 0 :=
 ⟨RdOf.begin hk hkn hn hs, rfl, rfl, rfl, leftTo_none n, by rw [if_neg (by omega)]; rfl⟩
structure Fv (xs : List (BitVec 8)) (k n : Nat) (f : Nat → Nat) (s : Shf) (x : Nat) : Prop where
 rd : Bv xs k n (objOf xs n) f s.read x
 rb : rdB s.read
 dn : s.done = s.read.done
 ry : s.ready = false
 to : s.to.length = n
 ep : s.epoch = 3
 wr : s.write = wrZero
theorem Fv.step {xs : List (BitVec 8)} {k n : Nat} {f : Nat → Nat} {s s2 : Shf} {x z : Nat} (h : Fv xs k n f s x) (hx : k + x ≤ n) (hf : f x < n) (hne : ∀ j < x, f j ≠ f x) (hz : z = f x) {hd : Hdr} {dt : List (BitVec 8)} (hhd : hd.id = (hdAt xs k n z).id) (e : s2 = mstepR s ((z : Int) + 1) hd dt false) : Fv xs k n f s2 (x + 1) := by
 subst hz e
 have hb := h.rd.step (dt := dt) hx hf hne (hit_own h.rd.ob hf hhd)
 refine ⟨hb, rdB_got h.rb, ?_, h.ry, h.to, h.ep, h.wr⟩
 show (if (gotR s.read _ hd dt false).done = 2 then (gotR s.read _ hd dt false).done else s.done) = (gotR s.read _ hd dt false).done
 rw [hb.dn, h.dn, h.rd.dn, if_neg (show ¬ n < k + x by omega)]
 by_cases h2 : n < k + (x + 1)
 · rw [if_pos h2]; rfl
 · rw [if_neg h2]; rfl
theorem Fv.begin {xs : List (BitVec 8)} {k n : Nat} {to : List Int} (f : Nat → Nat) (hk : 1 ≤ k) (hkn : k ≤ n) (hn : n ≤ 255) (hs : xs.length ≤ 65536) (hto : to.length = n) : Fv xs k n f (mbegR (objOf xs n) (k : Int) (n : Int) to 3 100) 0 :=
 ⟨Bv.begin f hk hkn hn hs, rdB_begin hk hkn hn hs, rfl, rfl, hto, rfl, rfl⟩
theorem Fv.d0 {xs : List (BitVec 8)} {k n : Nat} {f : Nat → Nat} {s : Shf} {x : Nat} (h : Fv xs k n f s x) (hx : k + x ≤ n) : s.done = 0 := by
 rw [h.dn, h.rd.dn, if_neg (by omega)]
theorem Fv.dl {xs : List (BitVec 8)} {k n : Nat} {f : Nat → Nat} {s : Shf} {x : Nat} (h : Fv xs k n f s x) : s.done = if n < k + x then 2 else 0 := h.dn.trans h.rd.dn
def wrB (W : Wr) : Prop := W.key.size ≤ maxLen ∧ (0 ≤ W.client ∧ W.client ≤ 18446744073709551615) ∧ (0 ≤ W.seq ∧ W.seq ≤ 18446744073709551615) ∧ (-9223372036854775808 ≤ W.waited ∧ W.waited ≤ 9223372036854775807) ∧ (-9223372036854775808 ≤ W.limit ∧ W.limit ≤ 9223372036854775807) ∧ (-9223372036854775808 ≤ W.done ∧ W.done ≤ 9223372036854775807)
def shB (s : Shf) : Prop := rdB s.read ∧ (0 ≤ s.epoch ∧ s.epoch ≤ 18446744073709551615) ∧ wrB s.write ∧ (-9223372036854775808 ≤ s.done ∧ s.done ≤ 9223372036854775807)
def mwriteR (s : Shf) (frm : Int) (hd : Hdr) (ok : Bool) : Shf := { s with write := (gotOf s.write 10 frm hd ok).1, done := (gotOf s.write 10 frm hd ok).2 }
theorem mwriteR_eq {s : Shf} {frm : Int} {hd : Hdr} {ok : Bool} {W : Wr} {e : Int} (h : (W, e) = gotOf s.write 10 frm hd ok) : ({ s with write := W, done := e } : Shf) = mwriteR s frm hd ok := by
 unfold mwriteR
 rw [← h]
theorem addShf {w0 w w' : World} {S : Nat → Prop} {O : List Nat} {M : Heap} {W : List OwnS} {G : List Fact} {s : Shf} {cs : List Value} (H : Hp w0 S O M W G w) (hE : Ext w w') (h : shfS.rep (Nw (Av S w0 O (idsOf M W)) w) w' cs s) :
 ∃ (a006o : Option Addr) (k006o : Nat) (a03o : Option Addr) (k03o : Nat) (a04o : Option Addr) (k04o : Nat) (a1o : Option Addr) (k1o : Nat) (a33o : Option Addr) (k33o : Nat) (a34o : Option Addr) (k34o : Nat) (a35o : Option Addr) (k35o : Nat) (a36o : Option Addr) (k36o : Nat), cs = shfV s a006o k006o a03o k03o a04o k04o a1o k1o a33o k33o a34o k34o a35o k35o a36o k36o ∧ shB s ∧ Hp w0 S O M W ([Rp (Shape.slice (Shape.int .i64)) [.slice a006o s.read.object.nodes.length k006o] s.read.object.nodes, Rp (Shape.slice pcS) [.slice a03o s.read.pieces.length k03o] s.read.pieces, Rp (Shape.slice (Shape.int .i64)) [.slice a04o s.read.bad.length k04o] s.read.bad, Rp (Shape.slice (Shape.int .i64)) [.slice a1o s.to.length k1o] s.to, Rp (Shape.slice hdrS) [.slice a33o s.write.heads.length k33o] s.write.heads, Rp (Shape.slice SB) [.slice a34o s.write.chunks.length k34o] s.write.chunks, Rp (Shape.slice (Shape.int .i64)) [.slice a35o s.write.nodes.length k35o] s.write.nodes, Rp (Shape.slice (Shape.int .i64)) [.slice a36o s.write.acks.length k36o] s.write.acks] ++ G) w' := by
 obtain ⟨_, z, A, _, rfl, B, C, _, D, _⟩ := shf_open h
 obtain ⟨_, k, l, m, n, rfl, v, _, _, x, y, _, _, _⟩ := rd_open B
 obtain ⟨a, b, rfl, _, _, _, _, _, c⟩ := obj_open v
 obtain ⟨d, e, f, g, i, j, o, p, rfl, _, _, _, q, r, t, u, _, _, _⟩ := wr_open D
 exact ⟨_, _, _, _, _, _, _, _, _, _, _, _, _, _, _, _, rfl, by unfold shB wrB rdB; omega, ((((((((H.addN hE (F := Rp (Shape.slice (Shape.int .i64)) [.slice o s.write.acks.length p] s.write.acks) u).add (F := Rp (Shape.slice (Shape.int .i64)) [.slice i s.write.nodes.length j] s.write.nodes) ((H.addN hE (F := Rp (Shape.slice (Shape.int .i64)) [.slice i s.write.nodes.length j] s.write.nodes) t).rp 0 rfl)).add (F := Rp (Shape.slice SB) [.slice f s.write.chunks.length g] s.write.chunks) ((H.addN hE (F := Rp (Shape.slice SB) [.slice f s.write.chunks.length g] s.write.chunks) r).rp 0 rfl)).add (F := Rp (Shape.slice hdrS) [.slice d s.write.heads.length e] s.write.heads) ((H.addN hE (F := Rp (Shape.slice hdrS) [.slice d s.write.heads.length e] s.write.heads) q).rp 0 rfl)).add (F := Rp (Shape.slice (Shape.int .i64)) [.slice z s.to.length A] s.to) ((H.addN hE (F := Rp (Shape.slice (Shape.int .i64)) [.slice z s.to.length A] s.to) C).rp 0 rfl)).add (F := Rp (Shape.slice (Shape.int .i64)) [.slice m s.read.bad.length n] s.read.bad) ((H.addN hE (F := Rp (Shape.slice (Shape.int .i64)) [.slice m s.read.bad.length n] s.read.bad) y).rp 0 rfl)).add (F := Rp (Shape.slice pcS) [.slice k s.read.pieces.length l] s.read.pieces) ((H.addN hE (F := Rp (Shape.slice pcS) [.slice k s.read.pieces.length l] s.read.pieces) x).rp 0 rfl)).add (F := Rp (Shape.slice (Shape.int .i64)) [.slice a s.read.object.nodes.length b] s.read.object.nodes) ((H.addN hE (F := Rp (Shape.slice (Shape.int .i64)) [.slice a s.read.object.nodes.length b] s.read.object.nodes) c).rp 0 rfl))⟩
def h22s : Shf := mbegR (objOf [1#8, 2#8, 3#8] 1) 1 1 [2] 3 10
def h22t : Shf := mgotR h22s 1 (chkAt [1#8, 2#8, 3#8] 1 1 0).head (chkAt [1#8, 2#8, 3#8] 1 1 0).data true [1#8, 2#8, 3#8] 1 1
def h22L : List Msg := mgotL h22s 1 (chkAt [1#8, 2#8, 3#8] 1 1 0).head (chkAt [1#8, 2#8, 3#8] 1 1 0).data true [1#8, 2#8, 3#8] 1 1
def h22m : Msg := h22L.getD 0 (askOf h22s.read 0)
theorem h22_okB : okB (objOf [1#8, 2#8, 3#8] 1) 1 1 10 := by unfold okB; decide +kernel
theorem h22_of : RdOf [1#8, 2#8, 3#8] 1 1 h22s.read := RdOf.begin (k := 1) (n := 1) (by decide) (by decide) (by decide) (by decide)
theorem h22_len : (asksR (beginR (objOf [1#8, 2#8, 3#8] 1) 1 1 10)).length = 1 := by kernel_rfl
theorem h22_ask : (asksR (beginR (objOf [1#8, 2#8, 3#8] 1) 1 1 10))[0]? = some (askOf h22s.read 0) := by exact rfl
theorem h22_d : h22t.done = 0 := by decide +kernel
theorem h22_ml : h22L.length = 1 := by kernel_rfl
theorem h22_m : h22L[0]? = some h22m := by
 unfold h22m
 rw [List.getD_eq_getElem?_getD, List.getElem?_eq_getElem (show 0 < h22L.length by rw [h22_ml]; decide)]
 rfl
theorem h22_to : h22m.to = 2 := by decide +kernel
theorem h22_ep : h22m.head.id.epoch = 3 := by decide +kernel
theorem h22_hl : h22t.write.heads.length ≤ 1000000 := by decide +kernel
theorem h22_e : (gotOf h22t.write 10 2 h22m.head true).2 = 1 := by decide +kernel
set_option maxHeartbeats 4000000 in
theorem heads22_spec {S : Nat → Prop} {w : World}  :
 Calls Tryz.prog 13 #[] w (Ret fun v w' => Ext w w' ∧ v = .bool true) := by
 refine uS1 Tryz.func13 ?_
 have H := Hp.startF (w := w) (S := S) (G := []) .nil
 refine uR 3 [.c [1, 0], .c [2]] ?_
 refine qG (sq 0 10) ?_
 refine RW.new (κ := .seq) (d := some 14) (r := (sq 1 10)) (o := .cells #[.int .u8 1, .int .u8 2, .int .u8 3] 5 (0, 0)) (v := fun b => .slice (some ⟨b, 0, none⟩) 3 3) (fun b => by as_aux_lemma => kernel_rfl) (nofun) H ?_
 intro b1 _ H
 have H := H.freeze 0 rfl Sb ([1#8, 2#8, 3#8] : List (BitVec 8)) 3 (by simp [maxLen]) (by first | exact Nat.le_refl _ | simp) (EsP.cons (c := [.int .u8 1]) (Shape.bv_lit (x := 1#8) (by decide)) (EsP.cons (c := [.int .u8 2]) (Shape.bv_lit (x := 2#8) (by decide)) (EsP.cons (c := [.int .u8 3]) (Shape.bv_lit (x := 3#8) (by decide)) EsP.nil)))
 have H : Hp w S [] [] [] [Rp SB [.slice (some ⟨b1, 0, none⟩) 3 3] ([1#8, 2#8, 3#8] : List (BitVec 8))] _ := H
 refine uK (object22_ok (xs := ([1#8, 2#8, 3#8] : List (BitVec 8))) (H.rp 0 rfl) (k := 1) (n := 1) (by decide) (by decide) (by decide) (by decide)) ?_
 rintro _ _ a4 ⟨_, a5, c6, rfl, P4, Q4⟩
 have R0 := H
 obtain ⟨Y, Z, rfl, _, _, _, _, _, f4⟩ := obj_open P4
 have H := H.addM a4 Q4
 have H := H.addO R0 a4 f4
 refine uP 4 ?_
 refine uC #[.string (⟨#[]⟩), .int .u64 0, .I 0, .int .u32 0, .I 0, .int .u64 0, .slice none 0 0] 26 H ?_
 intro O0 _ H
 refine uW 26 0 (objV (objOf ([1#8, 2#8, 3#8] : List (BitVec 8)) 1) Y Z).toArray H 0 rfl ?_
 intro _ H
 refine uF 2 ?_
 refine uR 1 [.c [2, 0], .c [3]] ?_
 refine qG (sq 0 11) ?_
 refine uV 26 0 (H.cells 0 rfl) ?_
 refine RW.new (κ := .seq) (d := some 21) (r := (sq 2 11)) (o := .cells #[.I 2] 3 (0, 0)) (v := fun b => .slice (some ⟨b, 0, none⟩) 1 1) (fun b => by as_aux_lemma => kernel_rfl) (nofun) H ?_
 intro C2 _ H
 have H := H.freeze 0 rfl (Shape.int .i64) ([2] : List Int) 1 (by simp [maxLen]) (by first | exact Nat.le_refl _ | simp) (EsP.cons (c := [.I 2]) (Shape.int_mk (by decide)) EsP.nil)
 have H : Hp w S [] [_] [] [Rp (Shape.slice (Shape.int .i64)) [.slice (some ⟨C2, 0, none⟩) 1 1] ([2] : List Int), _, _, _] _ := H
 refine uK (mbegin_ok (O := (objOf ([1#8, 2#8, 3#8] : List (BitVec 8)) 1)) (obj_mk (y0 := (objOf ([1#8, 2#8, 3#8] : List (BitVec 8)) 1).key) (y1 := (objOf ([1#8, 2#8, 3#8] : List (BitVec 8)) 1).version) (y2 := (objOf ([1#8, 2#8, 3#8] : List (BitVec 8)) 1).size) (y3 := (objOf ([1#8, 2#8, 3#8] : List (BitVec 8)) 1).sum) (y4 := (objOf ([1#8, 2#8, 3#8] : List (BitVec 8)) 1).group) (y5 := (objOf ([1#8, 2#8, 3#8] : List (BitVec 8)) 1).epoch) (y6 := (objOf ([1#8, 2#8, 3#8] : List (BitVec 8)) 1).nodes) ⟨rfl, by first | assumption | (simp [maxLen]; done) | decide⟩ u64a i64a Shape.bv_mk i64a u64a (H.rp 1 rfl)) 1 1 3 10 (to := ([2] : List Int)) (H.rp 0 rfl) (by omega) (h22_okB) (rfl)) ?_
 rintro _ _ D2 ⟨_, b4, c4, rfl, E2, g4⟩
 have R0 := H
 obtain ⟨f, F⟩ : ∃ s_ : Shf, s_ = mbegR (objOf ([1#8, 2#8, 3#8] : List (BitVec 8)) 1) 1 1 ([2] : List Int) 3 10 := ⟨_, rfl⟩
 rw [← F] at E2
 obtain ⟨g, h, l, m, p, t, a0, b0, u, y, z, A, B, C, D, E, rfl, E1, H⟩ := addShf H D2 E2
 unfold shB wrB rdB at E1
 have W4 := E1.1.1
 have I1 := E1.2.2.1.1
 have H := H.addO R0 D2 g4
 refine uP 4 ?_
 refine uC ((shfZ).toArray) 46 H ?_
 intro z0 _ H
 refine uW 46 0 (shfV f g h l m p t a0 b0 u y z A B C D E).toArray H 0 rfl ?_
 intro _ H
 refine uF 2 ?_
 refine uR 2 [.c [3, 0, 0], .c [3, 0, 1], .c [4]] ?_
 refine qG (sq 0 18) ?_
 refine uP 12 ?_
 refine uN 37 (((asksR (beginR (objOf ([1#8, 2#8, 3#8] : List (BitVec 8)) 1) 1 1 10)).length : Nat) : Int) 1 (fun d4 => ?_) (fun d4 => ?_)
 ·
  exact absurd (congrArg (fun q : Nat => (q : Int)) h22_len) d4
 ·
  refine uP 1 ?_
  have hx36 : 0 < (asksR (beginR (objOf ([1#8, 2#8, 3#8] : List (BitVec 8)) 1) 1 1 10)).length := by rw [h22_len]; decide
  refine uX 31 0 H 0 rfl 0 (by omega) (h22_ask) ?_
  intro _ _ _ h4 H
  obtain ⟨J1, K1, _, _, L1, M1, N1, O1, rfl, _, _, _, _, _, _, _, _, i4, j4, k4, l4, _, _, _, _, _, m4⟩ := msg_open h4
  obtain ⟨V1, W1, X1, Y1, rfl, n4, o4⟩ := conf_open j4
  obtain ⟨_, rfl, p4, _, _, _⟩ := hdr_open k4
  obtain ⟨rfl, _, _, _⟩ := cid_open p4
  have H := H.addR i4
  have H := H.addR n4
  have H := H.addR o4
  have H := H.addR l4
  have H := H.addR m4
  refine uP 1 ?_
  refine uV 3 2 (H.fc 5 rfl) ?_
  refine qF 2 [(2, .slice a5 ((chksOf ([1#8, 2#8, 3#8] : List (BitVec 8)) 1 1).length) c6), (4, .P z0 0), (43, .bool (((askOf h22s.read 0).to) != 1))] ?_
  refine qN ((askOf h22s.read 0).to) 1 (fun e4 => ?_) (fun e4 => ?_)
  ·
   exact absurd (by decide) e4
  ·
   refine uR 2 [.c [4, 0], .c [5]] ?_
   refine WK.joinV (α := Nat × Shf × Option Addr × Nat × Option Addr × Nat × Option Addr × Nat × Option Addr × Nat × Option Addr × Nat × Option Addr × Nat × Option Addr × Nat × Option Addr × Nat × List Msg × Option Addr × Nat) (fun (h0, a, i, j, J, K, L, M, c0, d0, N, Q, R, T, U, V, W, X, i0, U0, V0) w_ => Hp w S [] [(h0, .cells (shfV a i j J K L M c0 d0 N Q R T U V W X).toArray 46 (0, 0)), (z0, .cells (shfV f g h l m p t a0 b0 u y z A B C D E).toArray 46 (0, 0)), (O0, .cells (objV (objOf ([1#8, 2#8, 3#8] : List (BitVec 8)) 1) Y Z).toArray 26 (0, 0))] [] [Rp (Shape.slice msgS) [.slice U0 i0.length V0] i0, Rp (Shape.slice (Shape.int .i64)) [.slice i a.read.object.nodes.length j] a.read.object.nodes, Rp (Shape.slice pcS) [.slice J a.read.pieces.length K] a.read.pieces, Rp (Shape.slice (Shape.int .i64)) [.slice L a.read.bad.length M] a.read.bad, Rp (Shape.slice (Shape.int .i64)) [.slice c0 a.to.length d0] a.to, Rp (Shape.slice hdrS) [.slice N a.write.heads.length Q] a.write.heads, Rp (Shape.slice SB) [.slice R a.write.chunks.length T] a.write.chunks, Rp (Shape.slice (Shape.int .i64)) [.slice U a.write.nodes.length V] a.write.nodes, Rp (Shape.slice (Shape.int .i64)) [.slice W a.write.acks.length X] a.write.acks, Rp (Shape.slice Shape.str) [.slice N1 ((askOf h22s.read 0).names.length) O1] ((askOf h22s.read 0).names), Rp SB [.slice L1 ((askOf h22s.read 0).data.length) M1] ((askOf h22s.read 0).data), Rp (Shape.slice (Shape.int .i64)) [.slice X1 (((askOf h22s.read 0).conf).learners.length) Y1] (((askOf h22s.read 0).conf).learners), Rp (Shape.slice (Shape.int .i64)) [.slice V1 (((askOf h22s.read 0).conf).voters.length) W1] (((askOf h22s.read 0).conf).voters), Rp (Shape.slice entS) [.slice J1 ((askOf h22s.read 0).entries.length) K1] ((askOf h22s.read 0).entries), Rp (Shape.slice msgS) [.slice b4 ((asksR (beginR (objOf ([1#8, 2#8, 3#8] : List (BitVec 8)) 1) 1 1 10)).length) c4] (asksR (beginR (objOf ([1#8, 2#8, 3#8] : List (BitVec 8)) 1) 1 1 10)), Rp (Shape.slice (Shape.int .i64)) [.slice g f.read.object.nodes.length h] f.read.object.nodes, Rp (Shape.slice pcS) [.slice l f.read.pieces.length m] f.read.pieces, Rp (Shape.slice (Shape.int .i64)) [.slice p f.read.bad.length t] f.read.bad, Rp (Shape.slice (Shape.int .i64)) [.slice a0 f.to.length b0] f.to, Rp (Shape.slice hdrS) [.slice u f.write.heads.length y] f.write.heads, Rp (Shape.slice SB) [.slice z f.write.chunks.length A] f.write.chunks, Rp (Shape.slice (Shape.int .i64)) [.slice B f.write.nodes.length C] f.write.nodes, Rp (Shape.slice (Shape.int .i64)) [.slice D f.write.acks.length E] f.write.acks, Rp (Shape.slice (Shape.int .i64)) [.slice (some ⟨C2, 0, none⟩) 1 1] ([2] : List Int), Rp (Shape.slice (Shape.int .i64)) [.slice Y ((objOf ([1#8, 2#8, 3#8] : List (BitVec 8)) 1).nodes.length) Z] ((objOf ([1#8, 2#8, 3#8] : List (BitVec 8)) 1).nodes), Rp (Shape.slice chkS) [.slice a5 ((chksOf ([1#8, 2#8, 3#8] : List (BitVec 8)) 1 1).length) c6] (chksOf ([1#8, 2#8, 3#8] : List (BitVec 8)) 1 1), Rp SB [.slice (some ⟨b1, 0, none⟩) 3 3] ([1#8, 2#8, 3#8] : List (BitVec 8))] w_ ∧ (a = h22t) ∧ shB a ∧ i0 = h22L) (fun (h0, a, i, j, J, K, L, M, c0, d0, N, Q, R, T, U, V, W, X, i0, U0, V0) => [(7, .P h0 0), (8, .slice U0 i0.length V0), (9, .I a.done)]) [Cq Tryz.prog 13 [5]] (fun F2 => ?_) ?_
   ·
    refine WK.drawH1 [] (.node (qs [0, 1, 2, 3, 4, 5, 6, 7, 8, 9]) (.cons 10 (.leaf [(11, .qui), (12, .qui), (13, .qui), (14, .qui), (15, .seq), (16, .seq), (17, .qui), (18, .qui)]) (.cons 15 (.leaf [(10, .seq), (11, .qui), (12, .qui), (13, .qui), (14, .qui), (16, .seq), (17, .qui), (18, .qui)]) .nil))) Try_mixed (by as_aux_lemma => kernel_rfl) (by as_aux_lemma => kernel_rfl) ?_
    intro R4 G2
    have H := H.draw
    rw [← G2] at H
    clear G2
    have hS := Chg.refl R4 []
    refine RG.node' (qs [0, 1, 2, 3, 4, 5, 6, 7, 8, 9]) (by as_aux_lemma => kernel_rfl) ?_
    refine uHV 46 0 hS (H.cells 0 rfl) nq0 ?_
    refine uHP hS 1 ?_
    have b5 : 0 < (chksOf ([1#8, 2#8, 3#8] : List (BitVec 8)) 1 1).length := by rw [chksOf_len]; decide
    refine uHX 90 0 hS H 17 rfl 0 (by omega) (chksOf_get (by decide)) ?_
    intro _ _ _ q4 H
    obtain ⟨_, _, _, rfl, r4, s4⟩ := chk_open q4
    obtain ⟨_, rfl, t4, _, _, _⟩ := hdr_open r4
    obtain ⟨rfl, _, _, _⟩ := cid_open t4
    have H := H.addR s4
    refine uHP hS 1 ?_
    refine uHV 84 0 hS (H.fc 1 rfl) nq0 ?_
    refine uHP hS 1 ?_
    have c5 : 0 < (chksOf ([1#8, 2#8, 3#8] : List (BitVec 8)) 1 1).length := by rw [chksOf_len]; decide
    refine uHX 90 0 hS H 19 rfl 0 (by omega) (chksOf_get (by decide)) ?_
    intro _ _ _ u4 H
    obtain ⟨_, _, _, rfl, j3, k3⟩ := chk_open u4
    obtain ⟨_, rfl, l3, _, _, _⟩ := hdr_open j3
    obtain ⟨rfl, _, _, _⟩ := cid_open l3
    have H := H.addR k3
    refine uHP hS 1 ?_
    refine uHV 62 7 hS (H.fc 1 rfl) nq0 ?_
    refine uHB hS 1 ?_
    refine (RGB.cons' ?_ (RGB.cons' ?_ RGB.nil'))
    ·
     refine RG.leaf' [(10, .seq), (11, .qui), (12, .qui), (13, .qui), (14, .qui), (15, .seq), (16, .seq), (17, .qui), (18, .qui)] (by as_aux_lemma => kernel_rfl) ?_
     have Hr := H
     refine RH.chn hS ?_
     refine uK (mgot_any (s := f) (shf_mk (y0 := f.read) (y3 := f.write) (rd_mkB (by unfold rdB; omega) (H.rp 11 rfl) (H.rp 12 rfl) (H.rp 13 rfl)) (H.rp 14 rfl) u64a (wr_mkV u64a u64a ⟨rfl, I1⟩ (H.rp 15 rfl) (H.rp 16 rfl) (H.rp 17 rfl) (H.rp 18 rfl) i64a i64a i64a) Shape.bool_mk i64a) (xs := [1#8, 2#8, 3#8]) (k := 1) (n := 1) (F ▸ h22_of) (by rw [F]; rfl) (by rw [F]; rfl) 1 ((chkAt [1#8, 2#8, 3#8] 1 1 0).head) true (dt := (chkAt [1#8, 2#8, 3#8] 1 1 0).data) (H.rp 0 rfl) (.I 0) (.int .u64 0) (.int .u64 0) (.int .u64 0) (.int .u64 0) (.int .u64 0) (.bool false) (.slice none 0 0) (.slice none 0 0) (.slice none 0 0) (.int .u64 0) (.int .u64 0) (.I 0) (.string (⟨#[]⟩)) (.I 0) (.slice none 0 0) (by rw [F]; decide) (by decide +kernel) (good_own 0 rfl rfl) (by rw [F]; rfl) (by rw [F]; rfl) (by rw [F]; decide)) ?_
     rintro _ _ Z1 ⟨_, v4, w4, H2, x4, rfl, m3, n3, k2, o3⟩
     have R0 := H
     obtain ⟨W0, X0, e1, f1, g1, h1, P1, Q1, i1, j1, k1, l1, m1, n1, o1, p1, rfl, Y0, H⟩ := addShf H Z1 m3
     unfold shB wrB rdB at Y0
     have S4 := Y0.1.1
     have L4 := Y0.2.2.1.1
     have H := H.addO R0 Z1 n3
     intro hS
     refine uHP hS 4 ?_
     refine RH.chn hS ?_
     refine RW.newC (κ := .chn) (d := some 7) (r := []) (o := .cells (shfZ).toArray 46 (0, 0)) (v := fun b => .P b 0) (fun b => by as_aux_lemma => kernel_rfl) (nofun) H ?_
     intro z4 _ I2 H
     have J2 := Nat.le_trans hS.size I2
     intro hS
     refine RH.sto ?_
     refine uWC 46 0 (shfV H2 W0 X0 e1 f1 g1 h1 P1 Q1 i1 j1 k1 l1 m1 n1 o1 p1).toArray H 0 rfl ?_
     intro _ K2 H
     have a2 := hS.sto K2 (.inl J2)
     refine ⟨a2, ?_⟩
     have hS := a2
     refine uHF hS 2 ?_
     have H := H.pick [0, 1, 2, 3, 4, 5, 6, 7, 8, 13, 14, 15, 16, 17, 19, 20, 21, 22, 23, 24, 25, 26, 27, 28, 29, 30, 31] rfl
     exact uB (F2 (z4, H2, W0, X0, e1, f1, g1, h1, P1, Q1, i1, j1, k1, l1, m1, n1, o1, p1, x4, v4, w4) _ ⟨H, k2.trans (by rw [F]; rfl), by unfold shB wrB rdB; omega, o3.trans (by rw [F]; rfl)⟩)
    ·
     refine RG.leaf' [(15, .seq), (10, .seq), (11, .qui), (12, .qui), (13, .qui), (14, .qui), (16, .seq), (17, .qui), (18, .qui)] (by as_aux_lemma => kernel_rfl) ?_
     have Hr := H
     refine RH.chn hS ?_
     refine RW.newC (κ := .chn) (d := some 7) (r := []) (o := .cells (shfZ).toArray 46 (0, 0)) (v := fun b => .P b 0) (fun b => by as_aux_lemma => kernel_rfl) (nofun) H ?_
     intro A4 _ L2 H
     have M2 := Nat.le_trans hS.size L2
     intro hS
     refine RH.chn hS ?_
     refine uK (mgot_any (s := f) (shf_mk (y0 := f.read) (y3 := f.write) (rd_mkB (by unfold rdB; omega) (H.rp 11 rfl) (H.rp 12 rfl) (H.rp 13 rfl)) (H.rp 14 rfl) u64a (wr_mkV u64a u64a ⟨rfl, I1⟩ (H.rp 15 rfl) (H.rp 16 rfl) (H.rp 17 rfl) (H.rp 18 rfl) i64a i64a i64a) Shape.bool_mk i64a) (xs := [1#8, 2#8, 3#8]) (k := 1) (n := 1) (F ▸ h22_of) (by rw [F]; rfl) (by rw [F]; rfl) 1 ((chkAt [1#8, 2#8, 3#8] 1 1 0).head) true (dt := (chkAt [1#8, 2#8, 3#8] 1 1 0).data) (H.rp 0 rfl) (.I 0) (.int .u64 0) (.int .u64 0) (.int .u64 0) (.int .u64 0) (.int .u64 0) (.bool false) (.slice none 0 0) (.slice none 0 0) (.slice none 0 0) (.int .u64 0) (.int .u64 0) (.I 0) (.string (⟨#[]⟩)) (.I 0) (.slice none 0 0) (by rw [F]; decide) (by decide +kernel) (good_own 0 rfl rfl) (by rw [F]; rfl) (by rw [F]; rfl) (by rw [F]; decide)) ?_
     rintro _ _ b2 ⟨_, B4, C4, N2, D4, rfl, p3, q3, l2, r3⟩
     have R0 := H
     obtain ⟨Z0, a1, q1, r1, s1, t1, R1, S1, u1, v1, w1, x1, z1, A1, B1, C1, rfl, hBo151, H⟩ := addShf H b2 p3
     unfold shB wrB rdB at hBo151
     have T4 := hBo151.1.1
     have M4 := hBo151.2.2.1.1
     have H := H.addO R0 b2 q3
     intro hS
     refine uHP hS 4 ?_
     refine RH.sto ?_
     refine uWC 46 0 (shfV N2 Z0 a1 q1 r1 s1 t1 R1 S1 u1 v1 w1 x1 z1 A1 B1 C1).toArray H 0 rfl ?_
     intro _ O2 H
     have c2 := hS.sto O2 (.inl M2)
     refine ⟨c2, ?_⟩
     have hS := c2
     refine uHF hS 2 ?_
     have H := H.pick [0, 1, 2, 3, 4, 5, 6, 7, 8, 13, 14, 15, 16, 17, 19, 20, 21, 22, 23, 24, 25, 26, 27, 28, 29, 30, 31] rfl
     exact uB (F2 (A4, N2, Z0, a1, q1, r1, s1, t1, R1, S1, u1, v1, w1, x1, z1, A1, B1, C1, D4, B4, C4) _ ⟨H, l2.trans (by rw [F]; rfl), by unfold shB wrB rdB; omega, r3.trans (by rw [F]; rfl)⟩)
   ·
    rintro ⟨h0, a, i, j, J, K, L, M, c0, d0, N, Q, R, T, U, V, W, X, i0, U0, V0⟩ _ ⟨H, E4⟩
    obtain ⟨e0, s3, P0⟩ := E4
    have T1 := s3
    unfold shB wrB rdB at T1
    have d5 := T1.1.1
    have d2 := T1.2.2.1.1
    refine uR 2 [.c [5, 0, 0], .c [5, 0, 1], .c [6]] ?_
    refine qG (sq 0 23) ?_
    refine uP 3 ?_
    refine uN 61 a.done 0 (fun P2 => ?_) (fun P2 => ?_)
    ·
     exact absurd (by rw [e0]; exact h22_d) P2
    ·
     refine uP 5 ?_
     refine uN 66 ((i0.length : Nat) : Int) 1 (fun Q2 => ?_) (fun Q2 => ?_)
     ·
      exact absurd (by rw [P0]; exact congrArg (fun q : Nat => (q : Int)) h22_ml) Q2
     ·
      refine uP 1 ?_
      have X4 : 0 < i0.length := by rw [P0, h22_ml]; decide
      refine uX 31 0 H 0 rfl 0 (by omega) (by rw [P0]; exact h22_m) ?_
      intro F4 G4 _ t3 H
      obtain ⟨m2, n2, _, _, o2, p2, q2, r2, rfl, _, _, _, _, _, _, _, _, u3, v3, x3, z3, _, _, _, _, _, A3⟩ := msg_open t3
      obtain ⟨R2, S2, T2, U2, rfl, B3, C3⟩ := conf_open v3
      obtain ⟨_, rfl, D3, _, _, _⟩ := hdr_open x3
      obtain ⟨rfl, _, _, _⟩ := cid_open D3
      have H := H.addR u3
      have H := H.addR B3
      have H := H.addR C3
      have H := H.addR z3
      have H := H.addR A3
      refine qP 1 (sq 11 23) [(7, .P h0 0), (8, .slice U0 i0.length V0), (66, .bool false), (69, .pointer (some ⟨F4, G4 + 2, none⟩))] ?_
      refine uV 3 2 (H.fc 5 rfl) ?_
      refine uP 3 ?_
      refine uN 73 h22m.to 2 (fun V2 => ?_) (fun V2 => ?_)
      ·
       exact absurd h22_to V2
      ·
       refine uP 1 ?_
       have Y4 : 0 < i0.length := by rw [P0, h22_ml]; decide
       refine uX 31 0 H 6 rfl 0 (by omega) (by rw [P0]; exact h22_m) ?_
       intro _ _ _ E3 H
       obtain ⟨s2, t2, _, _, u2, v2, x2, z2, rfl, _, _, _, _, _, _, _, _, F3, G3, H3, I3, _, _, _, _, _, J3⟩ := msg_open E3
       obtain ⟨W2, X2, Y2, Z2, rfl, K3, L3⟩ := conf_open G3
       obtain ⟨_, rfl, M3, _, _, _⟩ := hdr_open H3
       obtain ⟨rfl, _, _, _⟩ := cid_open M3
       have H := H.addR F3
       have H := H.addR K3
       have H := H.addR L3
       have H := H.addR I3
       have H := H.addR J3
       refine uP 3 ?_
       refine uV 22 15 (H.fc 5 rfl) ?_
       refine uF 2 ?_
       refine qN h22m.head.id.epoch 3 (fun a3 => ?_) (fun a3 => ?_)
       ·
        exact absurd h22_ep a3
       ·
        refine uR 2 [.c [6, 0], .c [7]] ?_
        refine WK.joinV (α := Shf) (fun x_ w_ => match x_ with | D1 => Hp w S [] [(h0, .cells (shfV a i j J K L M c0 d0 N Q R T U V W X).toArray 46 (0, 0)), (z0, .cells (shfV f g h l m p t a0 b0 u y z A B C D E).toArray 46 (0, 0)), (O0, .cells (objV (objOf ([1#8, 2#8, 3#8] : List (BitVec 8)) 1) Y Z).toArray 26 (0, 0))] [] [Rp (Shape.slice Shape.str) [.slice x2 h22m.names.length z2] h22m.names, Rp SB [.slice u2 h22m.data.length v2] h22m.data, Rp (Shape.slice (Shape.int .i64)) [.slice Y2 h22m.conf.learners.length Z2] h22m.conf.learners, Rp (Shape.slice (Shape.int .i64)) [.slice W2 h22m.conf.voters.length X2] h22m.conf.voters, Rp (Shape.slice entS) [.slice s2 h22m.entries.length t2] h22m.entries, Rp (Shape.slice Shape.str) [.slice q2 h22m.names.length r2] h22m.names, Rp SB [.slice o2 h22m.data.length p2] h22m.data, Rp (Shape.slice (Shape.int .i64)) [.slice T2 h22m.conf.learners.length U2] h22m.conf.learners, Rp (Shape.slice (Shape.int .i64)) [.slice R2 h22m.conf.voters.length S2] h22m.conf.voters, Rp (Shape.slice entS) [.slice m2 h22m.entries.length n2] h22m.entries, Rp (Shape.slice msgS) [.slice U0 i0.length V0] i0, Rp (Shape.slice (Shape.int .i64)) [.slice i a.read.object.nodes.length j] a.read.object.nodes, Rp (Shape.slice pcS) [.slice J a.read.pieces.length K] a.read.pieces, Rp (Shape.slice (Shape.int .i64)) [.slice L a.read.bad.length M] a.read.bad, Rp (Shape.slice (Shape.int .i64)) [.slice c0 a.to.length d0] a.to, Rp (Shape.slice hdrS) [.slice N a.write.heads.length Q] a.write.heads, Rp (Shape.slice SB) [.slice R a.write.chunks.length T] a.write.chunks, Rp (Shape.slice (Shape.int .i64)) [.slice U a.write.nodes.length V] a.write.nodes, Rp (Shape.slice (Shape.int .i64)) [.slice W a.write.acks.length X] a.write.acks, Rp (Shape.slice Shape.str) [.slice N1 ((askOf h22s.read 0).names.length) O1] ((askOf h22s.read 0).names), Rp SB [.slice L1 ((askOf h22s.read 0).data.length) M1] ((askOf h22s.read 0).data), Rp (Shape.slice (Shape.int .i64)) [.slice X1 (((askOf h22s.read 0).conf).learners.length) Y1] (((askOf h22s.read 0).conf).learners), Rp (Shape.slice (Shape.int .i64)) [.slice V1 (((askOf h22s.read 0).conf).voters.length) W1] (((askOf h22s.read 0).conf).voters), Rp (Shape.slice entS) [.slice J1 ((askOf h22s.read 0).entries.length) K1] ((askOf h22s.read 0).entries), Rp (Shape.slice msgS) [.slice b4 ((asksR (beginR (objOf ([1#8, 2#8, 3#8] : List (BitVec 8)) 1) 1 1 10)).length) c4] (asksR (beginR (objOf ([1#8, 2#8, 3#8] : List (BitVec 8)) 1) 1 1 10)), Rp (Shape.slice (Shape.int .i64)) [.slice g f.read.object.nodes.length h] f.read.object.nodes, Rp (Shape.slice pcS) [.slice l f.read.pieces.length m] f.read.pieces, Rp (Shape.slice (Shape.int .i64)) [.slice p f.read.bad.length t] f.read.bad, Rp (Shape.slice (Shape.int .i64)) [.slice a0 f.to.length b0] f.to, Rp (Shape.slice hdrS) [.slice u f.write.heads.length y] f.write.heads, Rp (Shape.slice SB) [.slice z f.write.chunks.length A] f.write.chunks, Rp (Shape.slice (Shape.int .i64)) [.slice B f.write.nodes.length C] f.write.nodes, Rp (Shape.slice (Shape.int .i64)) [.slice D f.write.acks.length E] f.write.acks, Rp (Shape.slice (Shape.int .i64)) [.slice (some ⟨C2, 0, none⟩) 1 1] ([2] : List Int), Rp (Shape.slice (Shape.int .i64)) [.slice Y ((objOf ([1#8, 2#8, 3#8] : List (BitVec 8)) 1).nodes.length) Z] ((objOf ([1#8, 2#8, 3#8] : List (BitVec 8)) 1).nodes), Rp (Shape.slice chkS) [.slice a5 ((chksOf ([1#8, 2#8, 3#8] : List (BitVec 8)) 1 1).length) c6] (chksOf ([1#8, 2#8, 3#8] : List (BitVec 8)) 1 1), Rp SB [.slice (some ⟨b1, 0, none⟩) 3 3] ([1#8, 2#8, 3#8] : List (BitVec 8))] w_ ∧ D1 = mwriteR h22t 2 h22m.head true) (fun x_ => match x_ with | D1 => [(12, .I D1.done)]) [Cq Tryz.prog 13 [7]] (fun e2 => ?_) ?_
        ·
         refine WK.drawH1 [] (.node (qs [0, 1, 2, 3, 4, 5]) (.cons 6 (.leaf [(7, .qui), (8, .qui), (9, .qui), (10, .qui), (11, .seq), (12, .seq), (13, .qui), (14, .qui)]) (.cons 11 (.leaf [(6, .seq), (7, .qui), (8, .qui), (9, .qui), (10, .qui), (12, .seq), (13, .qui), (14, .qui)]) .nil))) Try_mixed (by as_aux_lemma => kernel_rfl) (by as_aux_lemma => kernel_rfl) ?_
         intro H4 f2
         have H := H.draw
         rw [← f2] at H
         clear f2
         have hS := Chg.refl H4 []
         refine RG.node' (qs [0, 1, 2, 3, 4, 5]) (by as_aux_lemma => kernel_rfl) ?_
         refine uHV 46 0 hS (H.cells 0 rfl) nq0 ?_
         refine uHP hS 1 ?_
         have Z4 : 0 < i0.length := by rw [P0, h22_ml]; decide
         refine uHX 31 0 hS H 12 rfl 0 (by omega) (by rw [P0]; exact h22_m) ?_
         intro _ _ _ N3 H
         obtain ⟨_, _, _, _, _, _, _, _, rfl, _, _, _, _, _, _, _, _, O3, P3, Q3, R3, _, _, _, _, _, S3⟩ := msg_open N3
         obtain ⟨_, _, _, _, rfl, T3, U3⟩ := conf_open P3
         obtain ⟨_, rfl, V3, _, _, _⟩ := hdr_open Q3
         obtain ⟨rfl, _, _, _⟩ := cid_open V3
         have H := H.addR O3
         have H := H.addR T3
         have H := H.addR U3
         have H := H.addR R3
         have H := H.addR S3
         refine uHP hS 1 ?_
         refine uHV 84 13 hS (H.fc 5 rfl) nq0 ?_
         refine uHB hS 1 ?_
         refine (RGB.cons' ?_ (RGB.cons' ?_ RGB.nil'))
         ·
          refine RG.leaf' [(6, .seq), (7, .qui), (8, .qui), (9, .qui), (10, .qui), (11, .seq), (12, .seq), (13, .qui), (14, .qui)] (by as_aux_lemma => kernel_rfl) ?_
          have Hr := H
          refine RH.chn hS ?_
          refine uK (mgot_ready (s := a) (shf_mk (y0 := a.read) (y3 := a.write) (rd_mkB (by unfold rdB; omega) (H.rp 19 rfl) (H.rp 20 rfl) (H.rp 21 rfl)) (H.rp 22 rfl) u64a (wr_mkV u64a u64a ⟨rfl, d2⟩ (H.rp 23 rfl) (H.rp 24 rfl) (H.rp 25 rfl) (H.rp 26 rfl) i64a i64a i64a) Shape.bool_mk i64a) (by rw [e0]; exact h22_d) (by rw [e0]; rfl) 2 h22m.head true (.I 0) (.int .u64 0) (.int .u64 0) (.int .u64 0) (.int .u64 0) (.int .u64 0) (.bool false) (.slice none 0 0) (.slice none 0 0) (.slice none 0 0) (.slice none 0 0) (.int .u64 0) (.int .u64 0) (.I 0) (.string (⟨#[]⟩)) (.I 0) (.slice none 0 0) (by rw [e0]; exact h22_hl) (fun e he => by rw [← he, e0]; exact h22_e ▸ (by decide))) ?_
          rintro _ _ W3 ⟨_, I4, b3, rfl, g2, X3⟩
          have R0 := H
          obtain ⟨Q0, F1⟩ : ∃ s_ : Shf, s_ = { a with write := I4, done := b3 } := ⟨_, rfl⟩
          rw [← F1] at g2
          have A2 : Q0 = mwriteR a 2 h22m.head true := F1.trans (mwriteR_eq X3)
          rw [show b3 = Q0.done by rw [F1]]
          obtain ⟨v0, w0, C0, D0, E0, F0, S0, T0, G0, H0, I0, J0, K0, L0, M0, N0, rfl, c1, H⟩ := addShf H W3 g2
          unfold shB wrB rdB at c1
          have U4 := c1.1.1
          have N4 := c1.2.2.1.1
          intro hS
          refine uHP hS 4 ?_
          refine RH.chn hS ?_
          refine RW.newC (κ := .chn) (d := some 10) (r := []) (o := .cells (shfZ).toArray 46 (0, 0)) (v := fun b => .P b 0) (fun b => by as_aux_lemma => kernel_rfl) (nofun) H ?_
          intro U1 _ c3 H
          have d3 := Nat.le_trans hS.size c3
          intro hS
          refine RH.sto ?_
          refine uWC 46 0 (shfV Q0 v0 w0 C0 D0 E0 F0 S0 T0 G0 H0 I0 J0 K0 L0 M0 N0).toArray H 0 rfl ?_
          intro _ hch288 H
          have h2 := hS.sto hch288 (.inl d3)
          refine ⟨h2, ?_⟩
          have hS := h2
          refine uHF hS 2 ?_
          have H := H.pick [14, 15, 16, 17, 18, 20, 21, 22, 23, 24, 26, 27, 28, 29, 30, 31, 32, 33, 34, 35, 36, 37, 38, 39, 40, 41, 42, 43, 44, 45, 46, 47, 48, 49, 50, 51, 52] rfl
          have H := H.frontM 3 (M' := [(O0, .cells (objV (objOf ([1#8, 2#8, 3#8] : List (BitVec 8)) 1) Y Z).toArray 26 (0, 0)), (U1, .cells (shfV Q0 v0 w0 C0 D0 E0 F0 S0 T0 G0 H0 I0 J0 K0 L0 M0 N0).toArray 46 (0, 0)), (h0, .cells (shfV a i j J K L M c0 d0 N Q R T U V W X).toArray 46 (0, 0)), (z0, .cells (shfV f g h l m p t a0 b0 u y z A B C D E).toArray 46 (0, 0))]) rfl
          have H := H.frontM 3 (M' := [(z0, .cells (shfV f g h l m p t a0 b0 u y z A B C D E).toArray 46 (0, 0)), (O0, .cells (objV (objOf ([1#8, 2#8, 3#8] : List (BitVec 8)) 1) Y Z).toArray 26 (0, 0)), (U1, .cells (shfV Q0 v0 w0 C0 D0 E0 F0 S0 T0 G0 H0 I0 J0 K0 L0 M0 N0).toArray 46 (0, 0)), (h0, .cells (shfV a i j J K L M c0 d0 N Q R T U V W X).toArray 46 (0, 0))]) rfl
          have H := H.frontM 3 (M' := [(h0, .cells (shfV a i j J K L M c0 d0 N Q R T U V W X).toArray 46 (0, 0)), (z0, .cells (shfV f g h l m p t a0 b0 u y z A B C D E).toArray 46 (0, 0)), (O0, .cells (objV (objOf ([1#8, 2#8, 3#8] : List (BitVec 8)) 1) Y Z).toArray 26 (0, 0)), (U1, .cells (shfV Q0 v0 w0 C0 D0 E0 F0 S0 T0 G0 H0 I0 J0 K0 L0 M0 N0).toArray 46 (0, 0))]) rfl
          have H := H.drop (M' := [(h0, .cells (shfV a i j J K L M c0 d0 N Q R T U V W X).toArray 46 (0, 0)), (z0, .cells (shfV f g h l m p t a0 b0 u y z A B C D E).toArray 46 (0, 0)), (O0, .cells (objV (objOf ([1#8, 2#8, 3#8] : List (BitVec 8)) 1) Y Z).toArray 26 (0, 0))]) (W' := []) (by repeat (first | exact List.Sublist.refl _ | exact List.nil_sublist _ | apply List.Sublist.cons_cons | apply List.Sublist.cons)) (by repeat (first | exact List.Sublist.refl _ | exact List.nil_sublist _ | apply List.Sublist.cons_cons | apply List.Sublist.cons))
          exact uB (e2 (Q0) _ ⟨H, A2.trans (by rw [e0])⟩)
         ·
          refine RG.leaf' [(11, .seq), (6, .seq), (7, .qui), (8, .qui), (9, .qui), (10, .qui), (12, .seq), (13, .qui), (14, .qui)] (by as_aux_lemma => kernel_rfl) ?_
          have Hr := H
          refine RH.chn hS ?_
          refine RW.newC (κ := .chn) (d := some 10) (r := []) (o := .cells (shfZ).toArray 46 (0, 0)) (v := fun b => .P b 0) (fun b => by as_aux_lemma => kernel_rfl) (nofun) H ?_
          intro G1 _ f3 H
          have g3 := Nat.le_trans hS.size f3
          intro hS
          refine RH.chn hS ?_
          refine uK (mgot_ready (s := a) (shf_mk (y0 := a.read) (y3 := a.write) (rd_mkB (by unfold rdB; omega) (H.rp 19 rfl) (H.rp 20 rfl) (H.rp 21 rfl)) (H.rp 22 rfl) u64a (wr_mkV u64a u64a ⟨rfl, d2⟩ (H.rp 23 rfl) (H.rp 24 rfl) (H.rp 25 rfl) (H.rp 26 rfl) i64a i64a i64a) Shape.bool_mk i64a) (by rw [e0]; exact h22_d) (by rw [e0]; rfl) 2 h22m.head true (.I 0) (.int .u64 0) (.int .u64 0) (.int .u64 0) (.int .u64 0) (.int .u64 0) (.bool false) (.slice none 0 0) (.slice none 0 0) (.slice none 0 0) (.slice none 0 0) (.int .u64 0) (.int .u64 0) (.I 0) (.string (⟨#[]⟩)) (.I 0) (.slice none 0 0) (by rw [e0]; exact h22_hl) (fun e he => by rw [← he, e0]; exact h22_e ▸ (by decide))) ?_
          rintro _ _ Y3 ⟨_, J4, h3, rfl, i2, Z3⟩
          have R0 := H
          obtain ⟨x0, H1⟩ : ∃ s_ : Shf, s_ = { a with write := J4, done := h3 } := ⟨_, rfl⟩
          rw [← H1] at i2
          have B2 : x0 = mwriteR a 2 h22m.head true := H1.trans (mwriteR_eq Z3)
          rw [show h3 = x0.done by rw [H1]]
          obtain ⟨f0, g0, j0, k0, l0, m0, A0, B0, n0, o0, p0, q0, r0, s0, t0, u0, rfl, d1, H⟩ := addShf H Y3 i2
          unfold shB wrB rdB at d1
          have V4 := d1.1.1
          have O4 := d1.2.2.1.1
          intro hS
          refine qHP hS 4 [(12, .seq), (13, .qui), (14, .qui)] [(10, .P G1 0), (90, .agg (shfV x0 f0 g0 j0 k0 l0 m0 A0 B0 n0 o0 p0 q0 r0 s0 t0 u0).toArray), (91, .slice none 0 0), (92, .I x0.done)] ?_
          refine RH.sto ?_
          refine uWC 46 0 (shfV x0 f0 g0 j0 k0 l0 m0 A0 B0 n0 o0 p0 q0 r0 s0 t0 u0).toArray H 0 rfl ?_
          intro _ i3 H
          have j2 := hS.sto i3 (.inl g3)
          refine ⟨j2, ?_⟩
          have hS := j2
          refine uHF hS 2 ?_
          have H := H.pick [14, 15, 16, 17, 18, 20, 21, 22, 23, 24, 26, 27, 28, 29, 30, 31, 32, 33, 34, 35, 36, 37, 38, 39, 40, 41, 42, 43, 44, 45, 46, 47, 48, 49, 50, 51, 52] rfl
          have H := H.frontM 3 (M' := [(O0, .cells (objV (objOf ([1#8, 2#8, 3#8] : List (BitVec 8)) 1) Y Z).toArray 26 (0, 0)), (G1, .cells (shfV x0 f0 g0 j0 k0 l0 m0 A0 B0 n0 o0 p0 q0 r0 s0 t0 u0).toArray 46 (0, 0)), (h0, .cells (shfV a i j J K L M c0 d0 N Q R T U V W X).toArray 46 (0, 0)), (z0, .cells (shfV f g h l m p t a0 b0 u y z A B C D E).toArray 46 (0, 0))]) rfl
          have H := H.frontM 3 (M' := [(z0, .cells (shfV f g h l m p t a0 b0 u y z A B C D E).toArray 46 (0, 0)), (O0, .cells (objV (objOf ([1#8, 2#8, 3#8] : List (BitVec 8)) 1) Y Z).toArray 26 (0, 0)), (G1, .cells (shfV x0 f0 g0 j0 k0 l0 m0 A0 B0 n0 o0 p0 q0 r0 s0 t0 u0).toArray 46 (0, 0)), (h0, .cells (shfV a i j J K L M c0 d0 N Q R T U V W X).toArray 46 (0, 0))]) rfl
          have H := H.frontM 3 (M' := [(h0, .cells (shfV a i j J K L M c0 d0 N Q R T U V W X).toArray 46 (0, 0)), (z0, .cells (shfV f g h l m p t a0 b0 u y z A B C D E).toArray 46 (0, 0)), (O0, .cells (objV (objOf ([1#8, 2#8, 3#8] : List (BitVec 8)) 1) Y Z).toArray 26 (0, 0)), (G1, .cells (shfV x0 f0 g0 j0 k0 l0 m0 A0 B0 n0 o0 p0 q0 r0 s0 t0 u0).toArray 46 (0, 0))]) rfl
          have H := H.drop (M' := [(h0, .cells (shfV a i j J K L M c0 d0 N Q R T U V W X).toArray 46 (0, 0)), (z0, .cells (shfV f g h l m p t a0 b0 u y z A B C D E).toArray 46 (0, 0)), (O0, .cells (objV (objOf ([1#8, 2#8, 3#8] : List (BitVec 8)) 1) Y Z).toArray 26 (0, 0))]) (W' := []) (by repeat (first | exact List.Sublist.refl _ | exact List.nil_sublist _ | apply List.Sublist.cons_cons | apply List.Sublist.cons)) (by repeat (first | exact List.Sublist.refl _ | exact List.nil_sublist _ | apply List.Sublist.cons_cons | apply List.Sublist.cons))
          exact uB (e2 (x0) _ ⟨H, B2.trans (by rw [e0])⟩)
        ·
         rintro D1 _ ⟨H, K4⟩
         refine uR 2 [.c [8]] ?_
         refine qT (.bool (D1.done == 1)) Tryz.func13 ?_
         refine ⟨_, rfl, H.done, ?_⟩
         congr 1
         have e3 : D1.done = 1 := by rw [K4]; exact h22_e
         simp [e3]
end Go.Proofs.YtppcdmbkgficiaaGreat
