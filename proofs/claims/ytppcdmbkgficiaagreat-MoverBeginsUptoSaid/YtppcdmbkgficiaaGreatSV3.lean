import Derived.Test.YtppcdmbkgficiaaGreatSBxB
import Derived.Test.YtppcdmbkgficiaaGreatSF9
import Derived.Test.YtppcdmbkgficiaaGreatSW6
namespace Go.Proofs.YtppcdmbkgficiaaGreat
open Go.BX
def wrZero : Wr := ⟨0, 0, ⟨#[]⟩, [], [], [], [], 0, 0, 0⟩
def mbegR (O : ObjD) (k n : Int) (to : List Int) (epoch limit : Int) : Shf := ⟨beginR O k n limit, to, epoch, wrZero, false, 0⟩
set_option maxHeartbeats 2000000 in
theorem mbegin_ok {S : Nat → Prop} {w : World} {O : ObjD} {os : List Value} (hO : objS.rep S w os O) (k n epoch limit : Int) {to : List Int} {ta : Option Addr} {tc : Nat} (hto : (Shape.slice (Shape.int .i64)).rep S w [.slice ta to.length tc] to) (he : 0 ≤ epoch ∧ epoch ≤ 18446744073709551615) (hb : okB O k n limit) (htl : (to.length : Int) = n) :
 Calls Tryz.prog 10 #[.agg os.toArray, .I k, .I n, .slice ta to.length tc, .int .u64 epoch, .I limit] w (Ret fun v w' => Ext w w' ∧ ∃ (ds : List Value) (a : Option Addr) (c : Nat), v = .tuple #[.agg ds.toArray, .slice a (asksR (beginR O k n limit)).length c, .I 0] ∧ shfS.rep (Nw S w) w' ds (mbegR O k n to epoch limit) ∧ (Shape.slice msgS).rep (Nw S w) w' [.slice a (asksR (beginR O k n limit)).length c] (asksR (beginR O k n limit))) := by
 obtain ⟨A, B, rfl, C, _, _, _, _, D⟩ := obj_open hO
 have E := hb
 obtain ⟨_, _, _, _, _, _⟩ := E
 refine uS1 Tryz.func10 ?_
 have H := Hp.startF (.rp D (.rp hto .nil))
 refine uR 1 [.c [0], .c [1]] ?_
 refine qG (sq 0 4) ?_
 refine uC ((objV O A B).toArray) 26 H ?_
 intro _ _ H
 refine uC ((shfZ).toArray) 46 H ?_
 intro F _ H
 refine uF 2 ?_
 refine uR 1 [.c [1, 0], .c [2]] ?_
 refine qG (sq 0 13) ?_
 refine uV 26 0 (H.cells 1 rfl) ?_
 refine uP 3 ?_
 refine uK (fbegin_ok (O := O) (obj_mk (y0 := O.key) (y1 := O.version) (y2 := O.size) (y3 := O.sum) (y4 := O.group) (y5 := O.epoch) (y6 := O.nodes) ⟨rfl, C⟩ u64a i64a Shape.bv_mk i64a u64a (H.rp 0 rfl)) k n limit (hb)) ?_
 rintro _ _ o ⟨G, p, q, rfl, l, m⟩
 have r := H
 replace l : rdS.rep _ _ G (beginR O k n limit) := l
 replace m : (Shape.slice msgS).rep _ _ [.slice p (asksR (beginR O k n limit)).length q] (asksR (beginR O k n limit)) := m
 obtain ⟨_, b, d, e, f, rfl, u, _, _, x, y, _, _, _⟩ := rd_open l
 obtain ⟨g, h, rfl, _, _, _, _, _, z⟩ := obj_open u
 have H := H.addM o m
 have H := H.addO r o z
 have H := H.addO r o x
 have H := H.addO r o y
 refine uP 4 ?_
 refine uC ((rdZ).toArray) 30 H ?_
 intro s _ H
 refine uW 30 0 (rdV (beginR O k n limit) g h b d e f).toArray H 0 rfl ?_
 intro t H
 refine uF 2 ?_
 refine uR 8 [.c [3, 0, 1], .c [4]] ?_
 refine qN ((to.length : Nat) : Int) n (fun J => ?_) (fun J => ?_)
 ·
  omega
 ·
  refine qR 2 [.c [4, 0], .c [5]] [(3, .slice ta to.length tc), (4, .int .u64 epoch), (12, .P F 0), (15, .P s 0), (16, .slice p ((asksR (beginR O k n limit)).length) q)] ?_
  refine WK.drawP1 6 [1, 3, 5] [(41, .slice p ((asksR (beginR O k n limit)).length) q), (39, .int .u64 epoch), (37, .slice ta to.length tc), (3, .slice ta to.length tc), (4, .int .u64 epoch), (12, .P F 0), (15, .P s 0), (16, .slice p ((asksR (beginR O k n limit)).length) q)] [(0, .qui), (2, .chn), (4, .qui)] [(0, .qui), (2, .chn), (4, .qui), (6, .seq), (7, .seq), (8, .seq)] Try_mixed (by as_aux_lemma => kernel_rfl) (by as_aux_lemma => kernel_rfl) (by as_aux_lemma => kernel_rfl) (by as_aux_lemma => kernel_rfl) ?_
  have H := H.draw
  generalize ({ t with drawn := t.drawn + 1 } : World) = K at H ⊢
  refine uV 30 0 (H.cells 0 rfl) ?_
  refine uK (clone_spec (H.rp 5 rfl) (by omega)) ?_
  rintro _ _ - H'
  have H := H.back (M1 := []) (W1 := []) H'
  obtain ⟨i, j, rfl, _, _⟩ := H.ownForm 0 rfl
  have H : Hp w S [] [_, _, _] [⟨Shape.int .i64, 3, .slice i to.length j, to⟩] [_, _, _, _, _, _] _ := H
  refine uP 1 ?_
  refine uW 46 0 ((rdV (beginR O k n limit) g h b d e f) ++ ([.slice i to.length j, .int .u64 epoch] : List Value) ++ (wrZ) ++ ([.bool false, .I 0] : List Value)).toArray H 1 rfl ?_
  intro _ H
  refine uF 2 ?_
  refine qRB (.tuple #[.agg ((rdV (beginR O k n limit) g h b d e f) ++ ([.slice i to.length j, .int .u64 epoch] : List Value) ++ (wrZ) ++ ([.bool false, .I 0] : List Value)).toArray, .slice p ((asksR (beginR O k n limit)).length) q, .I 0]) Tryz.func10 (v3 (.cell 12 46) (.tmp 13) (.tmp 14) (vC (H.cells 1 rfl)) vT vT) ?_
  have H : Hp w S [] [_, _, _] [] [Rp (Shape.slice (Shape.int .i64)) [.slice i to.length j] to, _, _, _, _, _, _] _ := H.freezeW 0 rfl
  exact ⟨_, rfl, H.done, [.string (((beginR O k n limit).object).key), .int .u64 (((beginR O k n limit).object).version), .I (((beginR O k n limit).object).size), .int .u32 (((((beginR O k n limit).object).sum).toNat : Nat) : Int), .I (((beginR O k n limit).object).group), .int .u64 (((beginR O k n limit).object).epoch), .slice g (((beginR O k n limit).object).nodes.length) h, .I ((beginR O k n limit).kk), .I ((beginR O k n limit).nn), .slice b ((beginR O k n limit).pieces.length) d, .slice e ((beginR O k n limit).bad.length) f, .I ((beginR O k n limit).waited), .I ((beginR O k n limit).limit), .I ((beginR O k n limit).done), .slice i to.length j, .int .u64 epoch, .int .u64 0, .int .u64 0, .string (⟨#[]⟩), .slice none 0 0, .slice none 0 0, .slice none 0 0, .slice none 0 0, .I 0, .I 0, .I 0, .bool false, .I 0], _, _, rfl, H.out (shf_mk (y0 := (beginR O k n limit)) (y3 := ⟨0, 0, ⟨#[]⟩, [], [], [], [], 0, 0, 0⟩) (rd_mkB (by unfold rdB; omega) (H.rp 3 rfl) (H.rp 2 rfl) (H.rp 1 rfl)) (H.rp 0 rfl) u64a (wr_mk (l0 := [.int .u64 0]) (y0 := 0) (l1 := [.int .u64 0]) (y1 := 0) (l2 := [.string (⟨#[]⟩)]) (y2 := ⟨#[]⟩) (l3 := [.slice none 0 0]) (y3 := []) (l4 := [.slice none 0 0]) (y4 := []) (l5 := [.slice none 0 0]) (y5 := []) (l6 := [.slice none 0 0]) (y6 := []) (l7 := [.I 0]) (y7 := 0) (l8 := [.I 0]) (y8 := 0) (l9 := [.I 0]) (y9 := 0) (Shape.int_mk (by decide)) (Shape.int_mk (by decide)) ⟨rfl, by first | assumption | (simp [maxLen]; done) | decide⟩ Shape.slice_nil Shape.slice_nil Shape.slice_nil Shape.slice_nil (Shape.int_mk (by decide)) (Shape.int_mk (by decide)) (Shape.int_mk (by decide))) Shape.bool_mk (Shape.int_mk (by decide))), H.out (H.rp 4 rfl)⟩
theorem gread_spec {S : Nat → Prop} {w : World} {O : List Nat} {bp : Nat} (x0 x1 x2 x3 x4 x5 x6 x7 x8 x9 x10 x11 x12 x13 x14 x15 x16 x17 x18 x19 x20 x21 x22 x23 x24 x25 x26 x28 : Value) (d0 : Int) (r : Rd) (a06y : Option Addr) (k06y : Nat) (a3y : Option Addr) (k3y : Nat) (a4y : Option Addr) (k4y : Nat) (v0 : Int) (H0 : Hp w S O [(bp, .cells (([x0, x1, x2, x3, x4, x5, x6, x7, x8, x9, x10, x11, x12, x13, x14, x15, x16, x17, x18, x19, x20, x21, x22, x23, x24, x25, x26, .I d0, x28] : List Value)).toArray 126 (0, 0))] [] [] w) :
 Calls Tryz.prog 54 #[.P bp 0, .agg (rdV r a06y k06y a3y k3y a4y k4y).toArray, .I v0] w (Ret fun v w' => v = v ∧ Hp w S O [(bp, .cells ((rdV r a06y k06y a3y k3y a4y k4y) ++ ([x14, x15, x16, x17, x18, x19, x20, x21, x22, x23, x24, x25, x26, .I (if v0 = 2 then v0 else d0), x28] : List Value)).toArray 126 (0, 0))] [] [] w') := by
 refine uS1 Tryz.func54 ?_
 have H := H0
 refine uR 1 [.c [0], .c [1]] ?_
 refine qG (sq 0 1) ?_
 refine uC ((rdV r a06y k06y a3y k3y a4y k4y).toArray) 30 H ?_
 intro a _ H
 refine uF 0 ?_
 refine uR 1 [.c [1, 0], .c [2]] ?_
 refine qG (sq 0 6) ?_
 refine uP 1 ?_
 refine uV 30 0 (H.cells 0 rfl) ?_
 refine uP 3 ?_
 refine uW 30 0 ((rdV r a06y k06y a3y k3y a4y k4y) ++ ([x14, x15, x16, x17, x18, x19, x20, x21, x22, x23, x24, x25, x26, .I d0, x28] : List Value)).toArray H 1 rfl ?_
 intro _ H
 refine uF 0 ?_
 refine uR 2 [.c [3]] ?_
 refine qE v0 2 (fun b => ?_) (fun b => ?_)
 ·
  refine qG (sq 0 6) ?_
  refine uP 5 ?_
  refine uW 28 27 ((rdV r a06y k06y a3y k3y a4y k4y) ++ ([x14, x15, x16, x17, x18, x19, x20, x21, x22, x23, x24, x25, x26, .I v0, x28] : List Value)).toArray H 1 rfl ?_
  intro _ H
  refine uF 0 ?_
  refine WK.fin (v := .tuple #[]) Tryz.func54 (by as_aux_lemma => kernel_rfl) ?_
  have H := H.frontM 1 (M' := [(bp, .cells ((rdV r a06y k06y a3y k3y a4y k4y) ++ ([x14, x15, x16, x17, x18, x19, x20, x21, x22, x23, x24, x25, x26, .I v0, x28] : List Value)).toArray 126 (0, 0)), (a, .cells (rdV r a06y k06y a3y k3y a4y k4y).toArray 30 (0, 0))]) rfl
  have H := H.drop (M' := [(bp, .cells ((rdV r a06y k06y a3y k3y a4y k4y) ++ ([x14, x15, x16, x17, x18, x19, x20, x21, x22, x23, x24, x25, x26, .I v0, x28] : List Value)).toArray 126 (0, 0))]) (W' := []) (by repeat (first | exact List.Sublist.refl _ | exact List.nil_sublist _ | apply List.Sublist.cons_cons | apply List.Sublist.cons)) (List.Sublist.refl _)
  refine ⟨_, rfl, rfl, ?_⟩
  rw [if_pos (by assumption)]
  exact H.pick [] rfl
 ·
  refine uR 1 [] ?_
  refine WK.fin (v := .tuple #[]) Tryz.func54 (by as_aux_lemma => kernel_rfl) ?_
  have H := H.frontM 1 (M' := [(bp, .cells ((rdV r a06y k06y a3y k3y a4y k4y) ++ ([x14, x15, x16, x17, x18, x19, x20, x21, x22, x23, x24, x25, x26, .I d0, x28] : List Value)).toArray 126 (0, 0)), (a, .cells (rdV r a06y k06y a3y k3y a4y k4y).toArray 30 (0, 0))]) rfl
  have H := H.drop (M' := [(bp, .cells ((rdV r a06y k06y a3y k3y a4y k4y) ++ ([x14, x15, x16, x17, x18, x19, x20, x21, x22, x23, x24, x25, x26, .I d0, x28] : List Value)).toArray 126 (0, 0))]) (W' := []) (by repeat (first | exact List.Sublist.refl _ | exact List.nil_sublist _ | apply List.Sublist.cons_cons | apply List.Sublist.cons)) (List.Sublist.refl _)
  refine ⟨_, rfl, rfl, ?_⟩
  rw [if_neg (by assumption)]
  exact H.pick [] rfl
def wrOf (r : Rd) (to : List Int) (epoch : Int) (xs : List (BitVec 8)) (k n : Nat) : Wr := beginW 0 0 r.object.key xs k n ⟨0, r.object.version, to, epoch⟩ r.limit
theorem got_keep {r : Rd} {frm : Int} {hd : Hdr} {dt : List (BitVec 8)} {ok : Bool} : (gotR r frm hd dt ok).object = r.object ∧ (gotR r frm hd dt ok).limit = r.limit := by
 unfold gotR
 split
 · exact ⟨rfl, rfl⟩
 · split
   · exact ⟨rfl, rfl⟩
   · split
     · unfold stepR
       split <;> exact ⟨rfl, rfl⟩
     · exact ⟨rfl, rfl⟩
theorem got_full {xs : List (BitVec 8)} {k n : Nat} {r : Rd} {frm : Int} {hd : Hdr} {dt : List (BitVec 8)} {ok : Bool} (hR : RdOf xs k n r) (h0 : r.done = 0) (h : (gotR r frm hd dt ok).done = 1) : k ≤ (gotR r frm hd dt ok).pieces.length := by
 have hj : ∀ q : Rd, q.kk = (k : Int) → judgeR q = 1 → k ≤ q.pieces.length := by
  intro q e hq
  unfold judgeR at hq
  split at hq
  · omega
  · split at hq <;> cases hq
 unfold gotR at h ⊢
 split at h
 · rw [h0] at h; cases h
 · rename_i hw
   rw [if_neg hw]
   split at h
   · rw [h0] at h; cases h
   · split at h
     · rename_i ho
       rw [if_pos ho]
       unfold stepR at h ⊢
       split at h
       · rename_i hg
         rw [if_pos hg]
         exact hj (putR r _ dt) hR.kk h
       · rename_i hg
         rw [if_neg hg]
         exact hj (badR r _) hR.kk h
     · rw [h0] at h; cases h
set_option maxHeartbeats 4000000 in
theorem gwrite_spec {S : Nat → Prop} {w : World} {O : List Nat} {bp : Nat} {xs : List (BitVec 8)} {k n : Nat} {r : Rd} {to : List Int} {epoch : Int} {a06y : Option Addr} {k06y : Nat} {a3y : Option Addr} {k3y : Nat} {a4y : Option Addr} {k4y : Nat} {ta : Option Addr} {tc : Nat} (z0 z1 z2 z3 z4 z5 z6 z7 z8 z9 z10 z11 z12 : Value) (hR : RdOf xs k n r) (hbr : rdB r) (hlen : k ≤ r.pieces.length) (hto : to.length = n) (hlim : 1 ≤ r.limit ∧ r.limit ≤ 100000) (he : 0 ≤ epoch ∧ epoch ≤ 18446744073709551615) (H0 : Hp w S O [(bp, .cells ((rdV r a06y k06y a3y k3y a4y k4y) ++ ([.slice ta to.length tc, .int .u64 epoch, z0, z1, z2, z3, z4, z5, z6, z7, z8, z9, z10, z11, z12] : List Value)).toArray 126 (0, 0))] [] [Rp (Shape.slice (Shape.int .i64)) [.slice a06y r.object.nodes.length k06y] r.object.nodes, Rp (Shape.slice pcS) [.slice a3y r.pieces.length k3y] r.pieces, Rp (Shape.slice (Shape.int .i64)) [.slice a4y r.bad.length k4y] r.bad, Rp (Shape.slice (Shape.int .i64)) [.slice ta to.length tc] to] w) :
 Calls Tryz.prog 55 #[.P bp 0] w (Ret fun v w' => v = v ∧ ∃ (a3w : Option Addr) (k3w : Nat) (a4w : Option Addr) (k4w : Nat) (a5w : Option Addr) (k5w : Nat) (a6w : Option Addr) (k6w : Nat) (am : Option Addr) (cm : Nat), Hp w S O [(bp, .cells ((rdV r a06y k06y a3y k3y a4y k4y) ++ ([.slice ta to.length tc, .int .u64 epoch] : List Value) ++ (wrV (wrOf r to epoch xs k n) a3w k3w a4w k4w a5w k5w a6w k6w) ++ ([.bool true, z11, .slice am ((msgsOf (wrOf r to epoch xs k n)).length) cm] : List Value)).toArray 126 (0, 0))] [] [Rp (Shape.slice hdrS) [.slice a3w ((wrOf r to epoch xs k n).heads.length) k3w] ((wrOf r to epoch xs k n).heads), Rp (Shape.slice SB) [.slice a4w ((wrOf r to epoch xs k n).chunks.length) k4w] ((wrOf r to epoch xs k n).chunks), Rp (Shape.slice (Shape.int .i64)) [.slice a5w ((wrOf r to epoch xs k n).nodes.length) k5w] ((wrOf r to epoch xs k n).nodes), Rp (Shape.slice (Shape.int .i64)) [.slice a6w ((wrOf r to epoch xs k n).acks.length) k6w] ((wrOf r to epoch xs k n).acks), Rp (Shape.slice msgS) [.slice am ((msgsOf (wrOf r to epoch xs k n)).length) cm] (msgsOf (wrOf r to epoch xs k n))] w') := by
 have K := hbr
 unfold rdB at K
 have F0 := K.1
 have h9 := hR.hs
 have h8 := hR.hk
 have h7 := hR.hkn
 have h6 := hR.hn
 refine uS1 Tryz.func55 ?_
 have H := H0
 refine uR 1 [.c [0], .c [1]] ?_
 refine qG (sq 0 7) ?_
 refine uP 4 ?_
 refine uV 30 0 (H.cells 0 rfl) ?_
 refine uC ((rdZ).toArray) 30 H ?_
 intro b1 _ H
 refine uW 30 0 (rdV r a06y k06y a3y k3y a4y k4y).toArray H 0 rfl ?_
 intro _ H
 refine uF 0 ?_
 refine uR 1 [.c [1, 0], .c [2]] ?_
 refine qG (sq 0 7) ?_
 refine uV 30 0 (H.cells 0 rfl) ?_
 refine uK (bytes_ok (r := r) (rd_mkB (by unfold rdB; omega) (H.rp 0 rfl) (H.rp 1 rfl) (H.rp 2 rfl)) (hR) (hlen)) ?_
 rintro _ _ y0 ⟨a5, c6, rfl, A0⟩
 have H := H.addM y0 A0
 refine uF 5 ?_
 refine uR 1 [.c [2, 0], .c [3]] ?_
 refine WK.drawH1 [] (.node (qs [0, 1, 2, 3, 4, 5, 6, 7, 8, 9, 10, 11, 12, 13, 14, 15, 16, 17, 18, 19, 20, 21, 22, 23]) (.cons 24 (.leaf [(25, .qui), (26, .qui), (27, .qui), (28, .qui), (29, .seq), (30, .seq), (31, .qui), (32, .qui)]) (.cons 29 (.leaf [(24, .seq), (25, .qui), (26, .qui), (27, .qui), (28, .qui), (30, .seq), (31, .qui), (32, .qui)]) .nil))) Try_mixed (by as_aux_lemma => kernel_rfl) (by as_aux_lemma => kernel_rfl) ?_
 intro w9 L
 have H := H.draw
 rw [← L] at H
 clear L
 have hS := Chg.refl w9 []
 refine RG.node' (qs [0, 1, 2, 3, 4, 5, 6, 7, 8, 9, 10, 11, 12, 13, 14, 15, 16, 17, 18, 19, 20, 21, 22, 23]) (by as_aux_lemma => kernel_rfl) ?_
 refine uHP hS 2 ?_
 refine uHV 9 0 hS (H.cells 0 rfl) nq0 ?_
 refine uHP hS 2 ?_
 refine uHV 3 7 hS (H.cells 0 rfl) nq0 ?_
 refine uHP hS 1 ?_
 refine uHV 3 8 hS (H.cells 0 rfl) nq0 ?_
 refine uHP hS 2 ?_
 refine uHV 22 1 hS (H.cells 0 rfl) nq0 ?_
 refine qHP hS 4 (qs [15, 16, 17, 18, 19, 20, 21, 22, 23]) [(0, .P bp 0), (2, .P b1 0), (21, .string r.object.key), (22, .slice a5 xs.length c6), (24, .I r.kk), (26, .I r.nn), (29, .int .u64 r.object.version), (33, .P bp 14)] ?_
 refine uHV 24 14 hS (H.cells 1 rfl) nq0 ?_
 refine uHP hS 4 ?_
 refine uHV 22 15 hS (H.cells 1 rfl) nq0 ?_
 refine uHP hS 2 ?_
 refine uHV 3 12 hS (H.cells 0 rfl) nq0 ?_
 refine uHB hS 0 ?_
 refine (RGB.cons' ?_ (RGB.cons' ?_ RGB.nil'))
 ·
  refine RG.leaf' [(24, .seq), (25, .qui), (26, .qui), (27, .qui), (28, .qui), (29, .seq), (30, .seq), (31, .qui), (32, .qui)] (by as_aux_lemma => kernel_rfl) ?_
  have Hr := H
  refine RH.chn hS ?_
  rw [hR.kk, hR.nn]
  refine uK (begin_ok (xs := xs) (R := ⟨0, r.object.version, to, epoch⟩) 0 0 r.object.key (H.rp 0 rfl) (res_mk (Shape.int_mk (by decide)) u64a (H.rp 4 rfl) u64a) r.limit (by first | assumption | decide | (simp [maxLen]; done)) (by omega) (by omega) k n (by first | omega | (simp; done)) (by omega) (by omega) (by omega) (hto) (by omega)) ?_
  rintro _ _ A ⟨m0, E, F, rfl, C, n0⟩
  have z := H
  replace C : wrS.rep _ _ m0 (wrOf r to epoch xs k n) := C
  obtain ⟨a, e, f, g, h, i, j, l, rfl, _, _, _, o0, p0, q0, r0, _, _, _⟩ := wr_open C
  have H := H.addM A n0
  have H := H.addO z A o0
  have H := H.addO z A p0
  have H := H.addO z A q0
  have H := H.addO z A r0
  intro hS
  refine uHP hS 4 ?_
  refine RH.chn hS ?_
  refine RW.newC (κ := .chn) (d := some 5) (r := []) (o := .cells (wrZ).toArray 44 (0, 0)) (v := fun b => .P b 0) (fun b => by as_aux_lemma => kernel_rfl) (nofun) H ?_
  intro B0 _ a0 H
  have b0 := Nat.le_trans hS.size a0
  intro hS
  refine RH.sto ?_
  refine uWC 44 0 (wrV (wrOf r to epoch xs k n) a e f g h i j l).toArray H 0 rfl ?_
  intro _ c0 H
  have M := hS.sto c0 (.inl b0)
  refine ⟨M, ?_⟩
  have hS := M
  refine uHF hS 2 ?_
  refine uR 1 [.c [3, 0], .c [4]] ?_
  refine WK.drawH1 [bp] (.leaf [(0, .qui), (1, .qui), (2, .qui), (3, .qui), (4, .qui), (5, .qui), (6, .qui), (7, .qui), (8, .seq), (9, .qui), (10, .qui), (11, .qui), (12, .seq), (13, .qui), (14, .qui), (15, .seq)]) Try_mixed (by as_aux_lemma => kernel_rfl) (by as_aux_lemma => kernel_rfl) ?_
  intro C0 N
  have H := H.draw
  rw [← N] at H
  clear N
  have hS := Chg.refl C0 [bp]
  refine RG.leaf' [(0, .qui), (1, .qui), (2, .qui), (3, .qui), (4, .qui), (5, .qui), (6, .qui), (7, .qui), (8, .seq), (9, .qui), (10, .qui), (11, .qui), (12, .seq), (13, .qui), (14, .qui), (15, .seq)] (by as_aux_lemma => kernel_rfl) ?_
  refine uHP hS 3 ?_
  refine uHV 44 0 hS (H.cells 0 rfl) (nq1 (H.raws 0 2 rfl rfl (by decide))) ?_
  refine uHP hS 4 ?_
  have Hr := H
  refine RH.sto ?_
  refine uWC 4 26 ((rdV r a06y k06y a3y k3y a4y k4y) ++ ([.slice ta to.length tc, .int .u64 epoch, z0, z1, z2, z3, z4, z5, z6, z7, z8, z9, .bool true, z11, z12] : List Value)).toArray H 2 rfl ?_
  intro _ d0 H
  have Q := hS.sto d0 (.inr (by simp))
  refine ⟨Q, ?_⟩
  have hS := Q
  refine uHP hS 3 ?_
  refine RH.sto ?_
  refine uWC 44 16 ((rdV r a06y k06y a3y k3y a4y k4y) ++ ([.slice ta to.length tc, .int .u64 epoch] : List Value) ++ (wrV (wrOf r to epoch xs k n) a e f g h i j l) ++ ([.bool true, z11, z12] : List Value)).toArray H 2 rfl ?_
  intro _ e0 H
  have T := hS.sto e0 (.inr (by simp))
  refine ⟨T, ?_⟩
  have hS := T
  refine uHP hS 2 ?_
  refine RH.sto ?_
  refine uWC 31 28 ((rdV r a06y k06y a3y k3y a4y k4y) ++ ([.slice ta to.length tc, .int .u64 epoch] : List Value) ++ (wrV (wrOf r to epoch xs k n) a e f g h i j l) ++ ([.bool true, z11, .slice E ((msgsOf (wrOf r to epoch xs k n)).length) F] : List Value)).toArray H 2 rfl ?_
  intro _ f0 H
  have U := hS.sto f0 (.inr (by simp))
  refine ⟨U, ?_⟩
  have hS := U
  refine uHF hS 0 ?_
  refine qR 4 [] [] ?_
  refine WK.fin (v := .tuple #[]) Tryz.func55 (by as_aux_lemma => kernel_rfl) ?_
  have H := H.frontM 2 (M' := [(bp, .cells ((rdV r a06y k06y a3y k3y a4y k4y) ++ ([.slice ta to.length tc, .int .u64 epoch] : List Value) ++ (wrV (wrOf r to epoch xs k n) a e f g h i j l) ++ ([.bool true, z11, .slice E ((msgsOf (wrOf r to epoch xs k n)).length) F] : List Value)).toArray 126 (0, 0)), (B0, .cells (wrV (wrOf r to epoch xs k n) a e f g h i j l).toArray 44 (0, 0)), (b1, .cells (rdV r a06y k06y a3y k3y a4y k4y).toArray 30 (0, 0))]) rfl
  have H := H.drop (M' := [(bp, .cells ((rdV r a06y k06y a3y k3y a4y k4y) ++ ([.slice ta to.length tc, .int .u64 epoch] : List Value) ++ (wrV (wrOf r to epoch xs k n) a e f g h i j l) ++ ([.bool true, z11, .slice E ((msgsOf (wrOf r to epoch xs k n)).length) F] : List Value)).toArray 126 (0, 0))]) (W' := []) (by repeat (first | exact List.Sublist.refl _ | exact List.nil_sublist _ | apply List.Sublist.cons_cons | apply List.Sublist.cons)) (List.nil_sublist _)
  exact ⟨_, rfl, rfl, a, e, f, g, h, i, j, l, E, F, H.pick [3, 2, 1, 0, 4] rfl⟩
 ·
  refine RG.leaf' [(29, .seq), (24, .seq), (25, .qui), (26, .qui), (27, .qui), (28, .qui), (30, .seq), (31, .qui), (32, .qui)] (by as_aux_lemma => kernel_rfl) ?_
  have Hr := H
  refine RH.chn hS ?_
  refine RW.newC (κ := .chn) (d := some 5) (r := []) (o := .cells (wrZ).toArray 44 (0, 0)) (v := fun b => .P b 0) (fun b => by as_aux_lemma => kernel_rfl) (nofun) H ?_
  intro D0 _ g0 H
  have h0 := Nat.le_trans hS.size g0
  intro hS
  refine RH.chn hS ?_
  rw [hR.kk, hR.nn]
  refine uK (begin_ok (xs := xs) (R := ⟨0, r.object.version, to, epoch⟩) 0 0 r.object.key (H.rp 0 rfl) (res_mk (Shape.int_mk (by decide)) u64a (H.rp 4 rfl) u64a) r.limit (by first | assumption | decide | (simp [maxLen]; done)) (by omega) (by omega) k n (by first | omega | (simp; done)) (by omega) (by omega) (by omega) (hto) (by omega)) ?_
  rintro _ _ B ⟨s0, G, J, rfl, D, t0⟩
  have z := H
  replace D : wrS.rep _ _ s0 (wrOf r to epoch xs k n) := D
  obtain ⟨m, p, q, s, t, u, x, y, rfl, _, _, _, u0, v0, w0, x0, _, _, _⟩ := wr_open D
  have H := H.addM B t0
  have H := H.addO z B u0
  have H := H.addO z B v0
  have H := H.addO z B w0
  have H := H.addO z B x0
  intro hS
  refine uHP hS 4 ?_
  refine RH.sto ?_
  refine uWC 44 0 (wrV (wrOf r to epoch xs k n) m p q s t u x y).toArray H 0 rfl ?_
  intro _ i0 H
  have V := hS.sto i0 (.inl h0)
  refine ⟨V, ?_⟩
  have hS := V
  refine uHF hS 2 ?_
  refine uR 1 [.c [3, 0], .c [4]] ?_
  refine WK.drawH1 [bp] (.leaf [(0, .qui), (1, .qui), (2, .qui), (3, .qui), (4, .qui), (5, .qui), (6, .qui), (7, .qui), (8, .seq), (9, .qui), (10, .qui), (11, .qui), (12, .seq), (13, .qui), (14, .qui), (15, .seq)]) Try_mixed (by as_aux_lemma => kernel_rfl) (by as_aux_lemma => kernel_rfl) ?_
  intro E0 W
  have H := H.draw
  rw [← W] at H
  clear W
  have hS := Chg.refl E0 [bp]
  refine RG.leaf' [(0, .qui), (1, .qui), (2, .qui), (3, .qui), (4, .qui), (5, .qui), (6, .qui), (7, .qui), (8, .seq), (9, .qui), (10, .qui), (11, .qui), (12, .seq), (13, .qui), (14, .qui), (15, .seq)] (by as_aux_lemma => kernel_rfl) ?_
  refine uHP hS 3 ?_
  refine uHV 44 0 hS (H.cells 0 rfl) (nq1 (H.raws 0 2 rfl rfl (by decide))) ?_
  refine uHP hS 4 ?_
  have Hr := H
  refine RH.sto ?_
  refine uWC 4 26 ((rdV r a06y k06y a3y k3y a4y k4y) ++ ([.slice ta to.length tc, .int .u64 epoch, z0, z1, z2, z3, z4, z5, z6, z7, z8, z9, .bool true, z11, z12] : List Value)).toArray H 2 rfl ?_
  intro _ j0 H
  have X := hS.sto j0 (.inr (by simp))
  refine ⟨X, ?_⟩
  have hS := X
  refine uHP hS 3 ?_
  refine RH.sto ?_
  refine uWC 44 16 ((rdV r a06y k06y a3y k3y a4y k4y) ++ ([.slice ta to.length tc, .int .u64 epoch] : List Value) ++ (wrV (wrOf r to epoch xs k n) m p q s t u x y) ++ ([.bool true, z11, z12] : List Value)).toArray H 2 rfl ?_
  intro _ k0 H
  have Y := hS.sto k0 (.inr (by simp))
  refine ⟨Y, ?_⟩
  have hS := Y
  refine uHP hS 2 ?_
  refine RH.sto ?_
  refine uWC 31 28 ((rdV r a06y k06y a3y k3y a4y k4y) ++ ([.slice ta to.length tc, .int .u64 epoch] : List Value) ++ (wrV (wrOf r to epoch xs k n) m p q s t u x y) ++ ([.bool true, z11, .slice G ((msgsOf (wrOf r to epoch xs k n)).length) J] : List Value)).toArray H 2 rfl ?_
  intro _ l0 H
  have Z := hS.sto l0 (.inr (by simp))
  refine ⟨Z, ?_⟩
  have hS := Z
  refine uHF hS 0 ?_
  refine uR 4 [] ?_
  refine WK.fin (v := .tuple #[]) Tryz.func55 (by as_aux_lemma => kernel_rfl) ?_
  have H := H.frontM 2 (M' := [(bp, .cells ((rdV r a06y k06y a3y k3y a4y k4y) ++ ([.slice ta to.length tc, .int .u64 epoch] : List Value) ++ (wrV (wrOf r to epoch xs k n) m p q s t u x y) ++ ([.bool true, z11, .slice G ((msgsOf (wrOf r to epoch xs k n)).length) J] : List Value)).toArray 126 (0, 0)), (D0, .cells (wrV (wrOf r to epoch xs k n) m p q s t u x y).toArray 44 (0, 0)), (b1, .cells (rdV r a06y k06y a3y k3y a4y k4y).toArray 30 (0, 0))]) rfl
  have H := H.drop (M' := [(bp, .cells ((rdV r a06y k06y a3y k3y a4y k4y) ++ ([.slice ta to.length tc, .int .u64 epoch] : List Value) ++ (wrV (wrOf r to epoch xs k n) m p q s t u x y) ++ ([.bool true, z11, .slice G ((msgsOf (wrOf r to epoch xs k n)).length) J] : List Value)).toArray 126 (0, 0))]) (W' := []) (by repeat (first | exact List.Sublist.refl _ | exact List.nil_sublist _ | apply List.Sublist.cons_cons | apply List.Sublist.cons)) (List.nil_sublist _)
  exact ⟨_, rfl, rfl, m, p, q, s, t, u, x, y, G, J, H.pick [3, 2, 1, 0, 4] rfl⟩
def mstepR (s : Shf) (frm : Int) (hd : Hdr) (dt : List (BitVec 8)) (ok : Bool) : Shf := { s with read := gotR s.read frm hd dt ok, done := if (gotR s.read frm hd dt ok).done = 2 then (gotR s.read frm hd dt ok).done else s.done }
def mdoneR (s : Shf) (frm : Int) (hd : Hdr) (dt : List (BitVec 8)) (ok : Bool) (xs : List (BitVec 8)) (k n : Nat) : Shf := { mstepR s frm hd dt ok with write := wrOf (gotR s.read frm hd dt ok) s.to s.epoch xs k n, ready := true }
def mgotR (s : Shf) (frm : Int) (hd : Hdr) (dt : List (BitVec 8)) (ok : Bool) (xs : List (BitVec 8)) (k n : Nat) : Shf := if (gotR s.read frm hd dt ok).done = 1 then mdoneR s frm hd dt ok xs k n else mstepR s frm hd dt ok
def mgotL (s : Shf) (frm : Int) (hd : Hdr) (dt : List (BitVec 8)) (ok : Bool) (xs : List (BitVec 8)) (k n : Nat) : List Msg := if (gotR s.read frm hd dt ok).done = 1 then msgsOf (mdoneR s frm hd dt ok xs k n).write else []
set_option maxHeartbeats 4000000 in
theorem mgot_any {S : Nat → Prop} {w : World} {s : Shf} {cs : List Value} (hs : shfS.rep S w cs s) {xs : List (BitVec 8)} {k n : Nat} (hR : RdOf xs k n s.read) (hd0 : s.done = 0) (hy0 : s.ready = false) (frm : Int) (hd : Hdr) (ok : Bool) {dt : List (BitVec 8)} {ad : Option Addr} {ce : Nat} (hdt : SB.rep S w [.slice ad dt.length ce] dt) (x2 x3 x4 x5 x6 x7 x9 x10 x11 x12 x21 x22 x23 x24 x25 x26 : Value) (hbl : s.read.bad.length ≤ 1000000) (hdl : dt.length ≤ 1000000) (hgood : ∀ i : Nat, hitR s.read frm hd i = true → goodR s.read i hd dt ok → dt = rowAt (enc xs k n) i) (hrd0 : s.read.done = 0) (hto : s.to.length = n) (hlim : 1 ≤ s.read.limit ∧ s.read.limit ≤ 100000) :
 Calls Tryz.prog 29 #[.agg cs.toArray, .agg #[.I 15, .I frm, x2, x3, x4, x5, x6, x7, .bool ok, x9, x10, x11, x12, .int .u64 hd.id.version, .I hd.id.index, .int .u64 hd.id.epoch, .I hd.kk, .I hd.nn, .I hd.size, .int .u32 ((hd.sum.toNat : Nat) : Int), .slice ad dt.length ce, x21, x22, x23, x24, x25, x26]] w (Ret fun v w' => Ext w w' ∧ ∃ (ds : List Value) (a : Option Addr) (c : Nat) (s2 : Shf) (L : List Msg), v = .tuple #[.agg ds.toArray, .slice a L.length c, .I s2.done] ∧ shfS.rep (Nw S w) w' ds s2 ∧ (Shape.slice msgS).rep (Nw S w) w' [.slice a L.length c] L ∧ s2 = mgotR s frm hd dt ok xs k n ∧ L = mgotL s frm hd dt ok xs k n) := by
 obtain ⟨_, C, D, _, rfl, j1, k1, _, l1, _⟩ := shf_open hs
 obtain ⟨_, u, x, y, z, rfl, A0, _, _, B0, C0, _, _, _⟩ := rd_open j1
 obtain ⟨e, f, rfl, _, _, _, _, _, K⟩ := obj_open A0
 obtain ⟨g, h, j, l, m, p, q, t, rfl, _, _, c0, d0, e0, f0, g0, _, _, _⟩ := wr_open l1
 refine uS1 Tryz.func29 ?_
 have H := Hp.startF (.rp K (.rp B0 (.rp C0 (.rp k1 (.rp d0 (.rp e0 (.rp f0 (.rp g0 (.rp hdt .nil)))))))))
 refine uR 1 [.c [0], .c [1]] ?_
 refine qG (sq 0 5) ?_
 refine uC ((shfV s e f u x y z C D g h j l m p q t).toArray) 46 H ?_
 intro b1 _ H
 refine uC #[.I 15, .I frm, x2, x3, x4, x5, x6, x7, .bool ok, x9, x10, x11, x12, .int .u64 hd.id.version, .I hd.id.index, .int .u64 hd.id.epoch, .I hd.kk, .I hd.nn, .I hd.size, .int .u32 ((hd.sum.toNat : Nat) : Int), .slice ad dt.length ce, x21, x22, x23, x24, x25, x26] 89 H ?_
 intro b3 _ H
 refine uC ((shfZ).toArray) 46 H ?_
 intro Q _ H
 refine uF 2 ?_
 refine uR 1 [.c [1, 0], .c [2]] ?_
 refine qG (sq 0 4) ?_
 refine uV 46 0 (H.cells 2 rfl) ?_
 refine uP 1 ?_
 refine uC (((rdV s.read e f u x y z) ++ ([.slice C s.to.length D, .int .u64 s.epoch] : List Value) ++ (wrV s.write g h j l m p q t) ++ ([.bool s.ready, .I s.done, .slice none 0 0] : List Value)).toArray) 126 H ?_
 intro R _ H
 refine uF 1 ?_
 refine uR 3 [.c [2, 0, 0, 0], .c [2, 0, 0, 1], .b 0, .c [3]] ?_
 refine qG (sq 0 7) ?_
 refine uP 4 ?_
 refine uV 28 27 (H.cells 0 rfl) ?_
 refine uF 2 ?_
 refine qN s.done 0 (fun h9 => ?_) (fun h9 => ?_)
 ·
  exact absurd hd0 h9
 ·
  refine uR 1 [.c [2, 0, 0, 1, 1, 0], .c [2, 0, 0, 1, 1, 1], .b 0, .c [3]] ?_
  refine qG (sq 0 6) ?_
  refine uP 4 ?_
  refine uV 4 26 (H.cells 0 rfl) ?_
  refine qF 1 [(3, .P b3 0), (4, .P Q 0), (7, .P R 0), (38, .bool s.ready)] ?_
  refine qC s.ready (fun W0 => ?_) (fun W0 => ?_)
  ·
   exact absurd (hy0.symm.trans W0) (by decide)
  ·
   refine uR 1 [.c [2, 0, 0, 1, 1, 1, 1, 0], .c [2, 0, 0, 1, 1, 1, 1, 1], .b 0, .c [3]] ?_
   refine WK.joinV (α := Nat × Rd × Option Addr × Nat × Option Addr × Nat × Option Addr × Nat) (fun (bj, Dj, A, B, E, F, G, J) w_ => Hp w S [] [(bj, .cells (rdV Dj A B E F G J).toArray 30 (0, 0)), (R, .cells ((rdV s.read e f u x y z) ++ ([.slice C s.to.length D, .int .u64 s.epoch] : List Value) ++ (wrV s.write g h j l m p q t) ++ ([.bool s.ready, .I s.done, .slice none 0 0] : List Value)).toArray 126 (0, 0)), (Q, .cells (shfZ).toArray 46 (0, 0)), (b3, .cells #[.I 15, .I frm, x2, x3, x4, x5, x6, x7, .bool ok, x9, x10, x11, x12, .int .u64 hd.id.version, .I hd.id.index, .int .u64 hd.id.epoch, .I hd.kk, .I hd.nn, .I hd.size, .int .u32 ((hd.sum.toNat : Nat) : Int), .slice ad dt.length ce, x21, x22, x23, x24, x25, x26] 89 (0, 0)), (b1, .cells (shfV s e f u x y z C D g h j l m p q t).toArray 46 (0, 0))] [] [Rp (Shape.slice (Shape.int .i64)) [.slice A Dj.object.nodes.length B] Dj.object.nodes, Rp (Shape.slice pcS) [.slice E Dj.pieces.length F] Dj.pieces, Rp (Shape.slice (Shape.int .i64)) [.slice G Dj.bad.length J] Dj.bad, Rp (Shape.slice (Shape.int .i64)) [.slice e s.read.object.nodes.length f] s.read.object.nodes, Rp (Shape.slice pcS) [.slice u s.read.pieces.length x] s.read.pieces, Rp (Shape.slice (Shape.int .i64)) [.slice y s.read.bad.length z] s.read.bad, Rp (Shape.slice (Shape.int .i64)) [.slice C s.to.length D] s.to, Rp (Shape.slice hdrS) [.slice g s.write.heads.length h] s.write.heads, Rp (Shape.slice SB) [.slice j s.write.chunks.length l] s.write.chunks, Rp (Shape.slice (Shape.int .i64)) [.slice m s.write.nodes.length p] s.write.nodes, Rp (Shape.slice (Shape.int .i64)) [.slice q s.write.acks.length t] s.write.acks, Rp SB [.slice ad dt.length ce] dt] w_ ∧ (Dj = gotR s.read frm hd dt ok) ∧ RdOf xs k n Dj ∧ rdB Dj) (fun (bj, Dj, A, B, E, F, G, J) => [(4, .P Q 0), (7, .P R 0), (8, .P bj 0), (9, .I Dj.done)]) [Cq Tryz.prog 29 [2, 0, 0, 1, 1, 1, 1, 1], .inBlock 0, Cq Tryz.prog 29 [3]] (fun D0 => ?_) ?_
   ·
    refine WK.drawH1 [] (.node (qs [0, 1, 2, 3, 4, 5]) (.cons 6 (.leaf [(7, .qui), (8, .qui), (9, .qui), (10, .seq), (11, .seq), (12, .qui)]) (.cons 10 (.leaf [(6, .seq), (7, .qui), (8, .qui), (9, .qui), (11, .seq), (12, .qui)]) .nil))) Try_mixed (by as_aux_lemma => kernel_rfl) (by as_aux_lemma => kernel_rfl) ?_
    intro m1 E0
    have H := H.draw
    rw [← E0] at H
    clear E0
    have hS := Chg.refl m1 []
    refine RG.node' (qs [0, 1, 2, 3, 4, 5]) (by as_aux_lemma => kernel_rfl) ?_
    refine uHP hS 4 ?_
    refine uHV 30 0 hS (H.cells 0 rfl) nq0 ?_
    refine uHV 89 0 hS (H.cells 2 rfl) nq0 ?_
    refine uHB hS 0 ?_
    refine (RGB.cons' ?_ (RGB.cons' ?_ RGB.nil'))
    ·
     refine RG.leaf' [(6, .seq), (7, .qui), (8, .qui), (9, .qui), (10, .seq), (11, .seq), (12, .qui)] (by as_aux_lemma => kernel_rfl) ?_
     have Hr := H
     refine RH.chn hS ?_
     have j0 : ∀ i : Nat, hitR s.read frm hd i = true → goodR s.read i hd dt ok → dt = rowAt (enc xs k n) i := hgood
     refine uK (fgot_spec (r := s.read) (rd_mkB (by unfold rdB; omega) (H.rp 0 rfl) (H.rp 1 rfl) (H.rp 2 rfl)) (hR) frm hd ok (dt := dt) (H.rp 8 rfl) x2 x3 x4 x5 x6 x7 x9 x10 x11 x12 x21 x22 x23 x24 x25 x26 (hbl) (hdl) j0) ?_
     rintro _ _ h0 ⟨_, k0, rfl, Z0, M⟩
     have b0 := H
     obtain ⟨_, l0, m0, n0, o0, rfl, a1, _, _, hf27, c1, _, _, _⟩ := rd_open Z0
     obtain ⟨p0, q0, rfl, _, _, _, _, _, d1⟩ := obj_open a1
     have H := H.addM h0 d1
     have H := H.addO b0 h0 hf27
     have H := H.addO b0 h0 c1
     have M0 : RdOf xs k n k0 := M ▸ RdOf.got (hR) j0
     have r1 : k0.bad.length ≤ s.read.bad.length + 1 := M ▸ got_bad_le
     intro hS
     refine uHP hS 3 ?_
     refine RH.chn hS ?_
     refine RW.newC (κ := .chn) (d := some 8) (r := []) (o := .cells (rdZ).toArray 30 (0, 0)) (v := fun b => .P b 0) (fun b => by as_aux_lemma => kernel_rfl) (nofun) H ?_
     intro n1 _ N0 H
     have O0 := Nat.le_trans hS.size N0
     intro hS
     refine RH.sto ?_
     refine uWC 30 0 (rdV k0 p0 q0 l0 m0 n0 o0).toArray H 0 rfl ?_
     intro _ P0 H
     have F0 := hS.sto P0 (.inl O0)
     refine ⟨F0, ?_⟩
     have hS := F0
     refine uHF hS 1 ?_
     have H := H.pick [2, 1, 0, 3, 4, 5, 6, 7, 8, 9, 10, 11] rfl
     exact uB (D0 (n1, k0, p0, q0, l0, m0, n0, o0) _ ⟨H, M, M0, (by unfold rdB; omega)⟩)
    ·
     refine RG.leaf' [(10, .seq), (6, .seq), (7, .qui), (8, .qui), (9, .qui), (11, .seq), (12, .qui)] (by as_aux_lemma => kernel_rfl) ?_
     have Hr := H
     refine RH.chn hS ?_
     refine RW.newC (κ := .chn) (d := some 8) (r := []) (o := .cells (rdZ).toArray 30 (0, 0)) (v := fun b => .P b 0) (fun b => by as_aux_lemma => kernel_rfl) (nofun) H ?_
     intro o1 _ Q0 H
     have R0 := Nat.le_trans hS.size Q0
     intro hS
     refine RH.chn hS ?_
     have r0 : ∀ i : Nat, hitR s.read frm hd i = true → goodR s.read i hd dt ok → dt = rowAt (enc xs k n) i := hgood
     refine uK (fgot_spec (r := s.read) (rd_mkB (by unfold rdB; omega) (H.rp 0 rfl) (H.rp 1 rfl) (H.rp 2 rfl)) (hR) frm hd ok (dt := dt) (H.rp 8 rfl) x2 x3 x4 x5 x6 x7 x9 x10 x11 x12 x21 x22 x23 x24 x25 x26 (hbl) (hdl) r0) ?_
     rintro _ _ i0 ⟨_, s0, rfl, e1, N⟩
     have b0 := H
     obtain ⟨_, t0, u0, v0, w0, rfl, f1, _, _, g1, h1, _, _, _⟩ := rd_open e1
     obtain ⟨x0, z0, rfl, _, _, _, _, _, i1⟩ := obj_open f1
     have H := H.addM i0 i1
     have H := H.addO b0 i0 g1
     have H := H.addO b0 i0 h1
     have S0 : RdOf xs k n s0 := N ▸ RdOf.got (hR) r0
     have s1 : s0.bad.length ≤ s.read.bad.length + 1 := N ▸ got_bad_le
     intro hS
     refine uHP hS 3 ?_
     refine RH.sto ?_
     refine uWC 30 0 (rdV s0 x0 z0 t0 u0 v0 w0).toArray H 0 rfl ?_
     intro _ T0 H
     have G0 := hS.sto T0 (.inl R0)
     refine ⟨G0, ?_⟩
     have hS := G0
     refine uHF hS 1 ?_
     have H := H.pick [2, 1, 0, 3, 4, 5, 6, 7, 8, 9, 10, 11] rfl
     exact uB (D0 (o1, s0, x0, z0, t0, u0, v0, w0) _ ⟨H, N, S0, (by unfold rdB; omega)⟩)
   ·
    rintro ⟨bj, Dj, A, B, E, F, G, J⟩ _ ⟨H, hij⟩
    obtain ⟨hlj, hRDj, hBDj⟩ := hij
    have hBj := hBDj
    unfold rdB at hBj
    have hsj := hBj.1
    refine uR 1 [.c [2, 0, 0, 1, 1, 1, 1, 1, 0], .c [2, 0, 0, 1, 1, 1, 1, 2], .b 0, .c [3]] ?_
    refine qG (sq 0 4) ?_
    refine uP 1 ?_
    refine uV 30 0 (H.cells 0 rfl) ?_
    refine uP 1 ?_
    have H := H.frontM 1 (M' := [(R, .cells ((rdV s.read e f u x y z) ++ ([.slice C s.to.length D, .int .u64 s.epoch] : List Value) ++ (wrV s.write g h j l m p q t) ++ ([.bool s.ready, .I s.done, .slice none 0 0] : List Value)).toArray 126 (0, 0)), (bj, .cells (rdV Dj A B E F G J).toArray 30 (0, 0)), (Q, .cells (shfZ).toArray 46 (0, 0)), (b3, .cells #[.I 15, .I frm, x2, x3, x4, x5, x6, x7, .bool ok, x9, x10, x11, x12, .int .u64 hd.id.version, .I hd.id.index, .int .u64 hd.id.epoch, .I hd.kk, .I hd.nn, .I hd.size, .int .u32 ((hd.sum.toNat : Nat) : Int), .slice ad dt.length ce, x21, x22, x23, x24, x25, x26] 89 (0, 0)), (b1, .cells (shfV s e f u x y z C D g h j l m p q t).toArray 46 (0, 0))]) rfl
    refine uKS (gread_spec (.string s.read.object.key) (.int .u64 s.read.object.version) (.I s.read.object.size) (.int .u32 ((s.read.object.sum.toNat : Nat) : Int)) (.I s.read.object.group) (.int .u64 s.read.object.epoch) (.slice e s.read.object.nodes.length f) (.I s.read.kk) (.I s.read.nn) (.slice u s.read.pieces.length x) (.slice y s.read.bad.length z) (.I s.read.waited) (.I s.read.limit) (.I s.read.done) (.slice C s.to.length D) (.int .u64 s.epoch) (.int .u64 s.write.client) (.int .u64 s.write.seq) (.string s.write.key) (.slice g s.write.heads.length h) (.slice j s.write.chunks.length l) (.slice m s.write.nodes.length p) (.slice q s.write.acks.length t) (.I s.write.waited) (.I s.write.limit) (.I s.write.done) (.bool s.ready) (.slice none 0 0) s.done Dj A B E F G J Dj.done ((H.lend (M1 := [(R, .cells ((rdV s.read e f u x y z) ++ ([.slice C s.to.length D, .int .u64 s.epoch] : List Value) ++ (wrV s.write g h j l m p q t) ++ ([.bool s.ready, .I s.done, .slice none 0 0] : List Value)).toArray 126 (0, 0))]) (W1 := [])).pick [] rfl)) ?_
    rintro _ _ ⟨-, H'⟩
    have H := H.back (M1 := [(R, .cells ((rdV s.read e f u x y z) ++ ([.slice C s.to.length D, .int .u64 s.epoch] : List Value) ++ (wrV s.write g h j l m p q t) ++ ([.bool s.ready, .I s.done, .slice none 0 0] : List Value)).toArray 126 (0, 0))]) (W1 := []) H'
    have t1 : -9223372036854775808 ≤ (if Dj.done = 2 then Dj.done else s.done : Int) ∧ (if Dj.done = 2 then Dj.done else s.done : Int) ≤ 9223372036854775807 := by split <;> omega
    refine uF 0 ?_
    refine uR 2 [.c [2, 0, 0, 1, 1, 1, 1, 3], .b 0, .c [3]] ?_
    refine qE Dj.done 1 (fun H0 => ?_) (fun H0 => ?_)
    ·
     have O := H0
     refine qG (sq 0 2) ?_
     refine uP 1 ?_
     refine uKS (gwrite_spec (r := Dj) (to := s.to) (epoch := s.epoch) (.int .u64 s.write.client) (.int .u64 s.write.seq) (.string s.write.key) (.slice g s.write.heads.length h) (.slice j s.write.chunks.length l) (.slice m s.write.nodes.length p) (.slice q s.write.acks.length t) (.I s.write.waited) (.I s.write.limit) (.I s.write.done) (.bool s.ready) (.I (if Dj.done = 2 then Dj.done else s.done)) (.slice none 0 0) hRDj (by unfold rdB; omega) (by rw [hlj]; exact got_full hR hrd0 (by rw [← hlj]; exact O)) hto (by rw [hlj, got_keep.2]; exact hlim) (by omega) ((H.lend (M1 := [(R, .cells ((rdV Dj A B E F G J) ++ ([.slice C s.to.length D, .int .u64 s.epoch] : List Value) ++ (wrV s.write g h j l m p q t) ++ ([.bool s.ready, .I (if Dj.done = 2 then Dj.done else s.done), .slice none 0 0] : List Value)).toArray 126 (0, 0))]) (W1 := [])).pick [0, 1, 2, 6] rfl)) ?_
     rintro _ _ ⟨-, T, U, V, W, X, Y, Z, a0, X0, Y0, H'⟩
     have H := H.back (M1 := [(R, .cells ((rdV Dj A B E F G J) ++ ([.slice C s.to.length D, .int .u64 s.epoch] : List Value) ++ (wrV s.write g h j l m p q t) ++ ([.bool s.ready, .I (if Dj.done = 2 then Dj.done else s.done), .slice none 0 0] : List Value)).toArray 126 (0, 0))]) (W1 := []) H'
     have hwclient : (wrOf Dj s.to s.epoch xs k n).client = 0 := rfl
     have hwseq : (wrOf Dj s.to s.epoch xs k n).seq = 0 := rfl
     have hwwaited : (wrOf Dj s.to s.epoch xs k n).waited = 0 := rfl
     have hwlimit : (wrOf Dj s.to s.epoch xs k n).limit = Dj.limit := rfl
     have hwdone : (wrOf Dj s.to s.epoch xs k n).done = 0 := rfl
     have hwkey : (wrOf Dj s.to s.epoch xs k n).key.size = Dj.object.key.size := rfl
     refine uF 0 ?_
     refine qR 2 [.c [3, 0], .c [4]] [(4, .P Q 0), (7, .P R 0)] ?_
     refine WK.drawH1 [Q] (.leaf [(0, .qui), (1, .qui), (2, .qui), (3, .qui), (4, .qui), (5, .qui), (6, .qui), (7, .qui), (8, .qui), (9, .qui), (10, .qui), (11, .qui), (12, .qui), (13, .seq), (14, .qui), (15, .qui)]) Try_mixed (by as_aux_lemma => kernel_rfl) (by as_aux_lemma => kernel_rfl) ?_
     intro p1 I0
     have H := H.draw
     rw [← I0] at H
     clear I0
     have hS := Chg.refl p1 [Q]
     refine RG.leaf' [(0, .qui), (1, .qui), (2, .qui), (3, .qui), (4, .qui), (5, .qui), (6, .qui), (7, .qui), (8, .qui), (9, .qui), (10, .qui), (11, .qui), (12, .qui), (13, .seq), (14, .qui), (15, .qui)] (by as_aux_lemma => kernel_rfl) ?_
     refine uHP hS 3 ?_
     refine uHV 46 0 hS (H.cells 0 rfl) (nq1 (H.raws 0 2 rfl rfl (by decide))) ?_
     refine uHP hS 3 ?_
     refine uHV 31 28 hS (H.cells 0 rfl) (nq1 (H.raws 0 2 rfl rfl (by decide))) ?_
     refine uHP hS 4 ?_
     refine uHV 28 27 hS (H.cells 0 rfl) (nq1 (H.raws 0 2 rfl rfl (by decide))) ?_
     have Hr := H
     refine RH.sto ?_
     refine uWC 46 0 ((rdV Dj A B E F G J) ++ ([.slice C s.to.length D, .int .u64 s.epoch] : List Value) ++ (wrV (wrOf Dj s.to s.epoch xs k n) T U V W X Y Z a0) ++ ([.bool true, .I (if Dj.done = 2 then Dj.done else s.done)] : List Value)).toArray H 2 rfl ?_
     intro _ U0 H
     have J0 := hS.sto U0 (.inr (by simp))
     refine ⟨J0, ?_⟩
     have hS := J0
     refine uHF hS 2 ?_
     refine qRB (.tuple #[.agg ((rdV Dj A B E F G J) ++ ([.slice C s.to.length D, .int .u64 s.epoch] : List Value) ++ (wrV (wrOf Dj s.to s.epoch xs k n) T U V W X Y Z a0) ++ ([.bool true, .I (if Dj.done = 2 then Dj.done else s.done)] : List Value)).toArray, .slice X0 ((msgsOf (wrOf Dj s.to s.epoch xs k n)).length) Y0, .I (if Dj.done = 2 then Dj.done else s.done)]) Tryz.func29 (v3 (.cell 4 46) (.tmp 5) (.tmp 6) (vC (H.cells 2 rfl)) vT vT) ?_
     exact ⟨_, rfl, H.done, [.string Dj.object.key, .int .u64 Dj.object.version, .I Dj.object.size, .int .u32 ((Dj.object.sum.toNat : Nat) : Int), .I Dj.object.group, .int .u64 Dj.object.epoch, .slice A Dj.object.nodes.length B, .I Dj.kk, .I Dj.nn, .slice E Dj.pieces.length F, .slice G Dj.bad.length J, .I Dj.waited, .I Dj.limit, .I Dj.done, .slice C s.to.length D, .int .u64 s.epoch, .int .u64 ((wrOf Dj s.to s.epoch xs k n).client), .int .u64 ((wrOf Dj s.to s.epoch xs k n).seq), .string ((wrOf Dj s.to s.epoch xs k n).key), .slice T ((wrOf Dj s.to s.epoch xs k n).heads.length) U, .slice V ((wrOf Dj s.to s.epoch xs k n).chunks.length) W, .slice X ((wrOf Dj s.to s.epoch xs k n).nodes.length) Y, .slice Z ((wrOf Dj s.to s.epoch xs k n).acks.length) a0, .I ((wrOf Dj s.to s.epoch xs k n).waited), .I ((wrOf Dj s.to s.epoch xs k n).limit), .I ((wrOf Dj s.to s.epoch xs k n).done), .bool true, .I (if Dj.done = 2 then Dj.done else s.done)], X0, Y0, ⟨Dj, s.to, s.epoch, (wrOf Dj s.to s.epoch xs k n), true, if Dj.done = 2 then Dj.done else s.done⟩, msgsOf (wrOf Dj s.to s.epoch xs k n), rfl, H.out (shf_mk (y0 := Dj) (y3 := (wrOf Dj s.to s.epoch xs k n)) (rd_mkB (by unfold rdB; omega) (H.rp 5 rfl) (H.rp 6 rfl) (H.rp 7 rfl)) (H.rp 11 rfl) u64a (wr_mkV u64a u64a ⟨rfl, by first | assumption | (simp [maxLen]; done) | decide⟩ (H.rp 0 rfl) (H.rp 1 rfl) (H.rp 2 rfl) (H.rp 3 rfl) i64a i64a i64a) Shape.bool_mk i64a), H.out (H.rp 4 rfl), by rw [mgotR, ← hlj, if_pos O, mdoneR, mstepR, ← hlj], by rw [mgotL, ← hlj, if_pos O, mdoneR, ← hlj]⟩
    ·
     have O := H0
     refine uR 3 [.c [3, 0], .c [4]] ?_
     refine WK.drawH1 [Q] (.leaf [(0, .qui), (1, .qui), (2, .qui), (3, .qui), (4, .qui), (5, .qui), (6, .qui), (7, .qui), (8, .qui), (9, .qui), (10, .qui), (11, .qui), (12, .qui), (13, .seq), (14, .qui), (15, .qui)]) Try_mixed (by as_aux_lemma => kernel_rfl) (by as_aux_lemma => kernel_rfl) ?_
     intro q1 K0
     have H := H.draw
     rw [← K0] at H
     clear K0
     have hS := Chg.refl q1 [Q]
     refine RG.leaf' [(0, .qui), (1, .qui), (2, .qui), (3, .qui), (4, .qui), (5, .qui), (6, .qui), (7, .qui), (8, .qui), (9, .qui), (10, .qui), (11, .qui), (12, .qui), (13, .seq), (14, .qui), (15, .qui)] (by as_aux_lemma => kernel_rfl) ?_
     refine uHP hS 3 ?_
     refine uHV 46 0 hS (H.cells 0 rfl) (nq1 (H.raws 0 2 rfl rfl (by decide))) ?_
     refine uHP hS 3 ?_
     refine uHV 31 28 hS (H.cells 0 rfl) (nq1 (H.raws 0 2 rfl rfl (by decide))) ?_
     refine uHP hS 4 ?_
     refine uHV 28 27 hS (H.cells 0 rfl) (nq1 (H.raws 0 2 rfl rfl (by decide))) ?_
     have Hr := H
     refine RH.sto ?_
     refine uWC 46 0 ((rdV Dj A B E F G J) ++ ([.slice C s.to.length D, .int .u64 s.epoch] : List Value) ++ (wrV s.write g h j l m p q t) ++ ([.bool s.ready, .I (if Dj.done = 2 then Dj.done else s.done)] : List Value)).toArray H 2 rfl ?_
     intro _ V0 H
     have L0 := hS.sto V0 (.inr (by simp))
     refine ⟨L0, ?_⟩
     have hS := L0
     refine uHF hS 2 ?_
     refine qRB (.tuple #[.agg ((rdV Dj A B E F G J) ++ ([.slice C s.to.length D, .int .u64 s.epoch] : List Value) ++ (wrV s.write g h j l m p q t) ++ ([.bool s.ready, .I (if Dj.done = 2 then Dj.done else s.done)] : List Value)).toArray, .slice none 0 0, .I (if Dj.done = 2 then Dj.done else s.done)]) Tryz.func29 (v3 (.cell 4 46) (.tmp 5) (.tmp 6) (vC (H.cells 2 rfl)) vT vT) ?_
     exact ⟨_, rfl, H.done, [.string Dj.object.key, .int .u64 Dj.object.version, .I Dj.object.size, .int .u32 ((Dj.object.sum.toNat : Nat) : Int), .I Dj.object.group, .int .u64 Dj.object.epoch, .slice A Dj.object.nodes.length B, .I Dj.kk, .I Dj.nn, .slice E Dj.pieces.length F, .slice G Dj.bad.length J, .I Dj.waited, .I Dj.limit, .I Dj.done, .slice C s.to.length D, .int .u64 s.epoch, .int .u64 s.write.client, .int .u64 s.write.seq, .string s.write.key, .slice g s.write.heads.length h, .slice j s.write.chunks.length l, .slice m s.write.nodes.length p, .slice q s.write.acks.length t, .I s.write.waited, .I s.write.limit, .I s.write.done, .bool s.ready, .I (if Dj.done = 2 then Dj.done else s.done)], none, 0, ⟨Dj, s.to, s.epoch, s.write, s.ready, if Dj.done = 2 then Dj.done else s.done⟩, ([] : List Msg), rfl, H.out (shf_mk (y0 := Dj) (y3 := s.write) (rd_mkB (by unfold rdB; omega) (H.rp 0 rfl) (H.rp 1 rfl) (H.rp 2 rfl)) (H.rp 6 rfl) u64a (wr_mkV u64a u64a ⟨rfl, c0⟩ (H.rp 7 rfl) (H.rp 8 rfl) (H.rp 9 rfl) (H.rp 10 rfl) i64a i64a i64a) Shape.bool_mk i64a), Shape.slice_nil, by rw [mgotR, ← hlj, if_neg O, mstepR, ← hlj], by rw [mgotL, ← hlj, if_neg O]⟩
set_option maxHeartbeats 4000000 in
theorem mgot_ready {S : Nat → Prop} {w : World} {s : Shf} {cs : List Value} (hs : shfS.rep S w cs s) (hd0 : s.done = 0) (hy0 : s.ready = true) (frm : Int) (hd : Hdr) (ok : Bool) (x2 x3 x4 x5 x6 x7 x9 x10 x11 x12 x20 x21 x22 x23 x24 x25 x26 : Value) (hn : s.write.heads.length ≤ 1000000) (hbe : ∀ e, (gotOf s.write 10 frm hd ok).2 = e → -9223372036854775808 ≤ e ∧ e ≤ 9223372036854775807) :
 Calls Tryz.prog 29 #[.agg cs.toArray, .agg #[.I 10, .I frm, x2, x3, x4, x5, x6, x7, .bool ok, x9, x10, x11, x12, .int .u64 hd.id.version, .I hd.id.index, .int .u64 hd.id.epoch, .I hd.kk, .I hd.nn, .I hd.size, .int .u32 ((hd.sum.toNat : Nat) : Int), x20, x21, x22, x23, x24, x25, x26]] w (Ret fun v w' => Ext w w' ∧ ∃ (ds : List Value) (W : Wr) (e : Int), v = .tuple #[.agg ds.toArray, .slice none 0 0, .I e] ∧ shfS.rep (Nw S w) w' ds { s with write := W, done := e } ∧ (W, e) = gotOf s.write 10 frm hd ok) := by
 obtain ⟨_, u, x, _, rfl, m0, n0, _, o0, _⟩ := shf_open hs
 obtain ⟨_, f, g, h, i, rfl, R, _, _, T, U, _, _, _⟩ := rd_open m0
 obtain ⟨a, d, rfl, _, _, _, _, _, t⟩ := obj_open R
 obtain ⟨y, z, A, B, C, D, E, F, rfl, _, _, L, M, N, O, Q, _, _, _⟩ := wr_open o0
 refine uS1 Tryz.func29 ?_
 have H := Hp.startF (.rp t (.rp T (.rp U (.rp n0 (.rp M (.rp N (.rp O (.rp Q .nil))))))))
 refine uR 1 [.c [0], .c [1]] ?_
 refine qG (sq 0 5) ?_
 refine uC ((shfV s a d f g h i u x y z A B C D E F).toArray) 46 H ?_
 intro _ _ H
 refine uC #[.I 10, .I frm, x2, x3, x4, x5, x6, x7, .bool ok, x9, x10, x11, x12, .int .u64 hd.id.version, .I hd.id.index, .int .u64 hd.id.epoch, .I hd.kk, .I hd.nn, .I hd.size, .int .u32 ((hd.sum.toNat : Nat) : Int), x20, x21, x22, x23, x24, x25, x26] 89 H ?_
 intro b3 _ H
 refine uC ((shfZ).toArray) 46 H ?_
 intro b5 _ H
 refine uF 2 ?_
 refine uR 1 [.c [1, 0], .c [2]] ?_
 refine qG (sq 0 4) ?_
 refine uV 46 0 (H.cells 2 rfl) ?_
 refine uP 1 ?_
 refine uC (((rdV s.read a d f g h i) ++ ([.slice u s.to.length x, .int .u64 s.epoch] : List Value) ++ (wrV s.write y z A B C D E F) ++ ([.bool s.ready, .I s.done, .slice none 0 0] : List Value)).toArray) 126 H ?_
 intro b7 _ H
 refine uF 1 ?_
 refine uR 3 [.c [2, 0, 0, 0], .c [2, 0, 0, 1], .b 0, .c [3]] ?_
 refine qG (sq 0 7) ?_
 refine uP 4 ?_
 refine uV 28 27 (H.cells 0 rfl) ?_
 refine uF 2 ?_
 refine qN s.done 0 (fun h9 => ?_) (fun h9 => ?_)
 ·
  exact absurd hd0 h9
 ·
  refine uR 1 [.c [2, 0, 0, 1, 1, 0], .c [2, 0, 0, 1, 1, 1], .b 0, .c [3]] ?_
  refine qG (sq 0 6) ?_
  refine uP 4 ?_
  refine uV 4 26 (H.cells 0 rfl) ?_
  refine qF 1 [(3, .P b3 0), (4, .P b5 0), (7, .P b7 0), (38, .bool s.ready)] ?_
  refine qC s.ready (fun g0 => ?_) (fun g0 => ?_)
  ·
   refine WK.drawH1 [b7] (.leaf [(0, .qui), (1, .qui), (2, .qui), (3, .qui), (4, .qui), (5, .qui), (7, .qui), (6, .seq), (8, .seq), (9, .qui), (10, .qui), (11, .qui), (12, .qui), (13, .qui), (14, .qui), (15, .seq), (16, .qui), (17, .qui), (18, .qui), (19, .seq)]) Try_mixed (by as_aux_lemma => kernel_rfl) (by as_aux_lemma => kernel_rfl) ?_
   intro p0 V
   have H := H.draw
   rw [← V] at H
   clear V
   have hS := Chg.refl p0 [b7]
   refine RG.leaf' [(0, .qui), (1, .qui), (2, .qui), (3, .qui), (4, .qui), (5, .qui), (7, .qui), (6, .seq), (8, .seq), (9, .qui), (10, .qui), (11, .qui), (12, .qui), (13, .qui), (14, .qui), (15, .seq), (16, .qui), (17, .qui), (18, .qui), (19, .seq)] (by as_aux_lemma => kernel_rfl) ?_
   refine uHP hS 6 ?_
   refine uHV 89 0 hS (H.cells 2 rfl) (nq1 (H.raws 2 0 rfl rfl (by decide))) ?_
   have Hr := H
   refine RH.chn hS ?_
   refine uV 44 16 (H.cells 0 rfl) ?_
   intro hS
   have Hr := H
   refine RH.chn hS ?_
   -- call
   refine uK (got_spec (W := s.write) (wr_mkV u64a u64a ⟨rfl, L⟩ (H.rp 4 rfl) (H.rp 5 rfl) (H.rp 6 rfl) (H.rp 7 rfl) i64a i64a i64a) 10 frm hd ok x2 x3 x4 x5 x6 x7 x9 x10 x11 x12 x20 x21 x22 x23 x24 x25 x26 (by first | assumption | omega)) ?_
   rintro _ _ K ⟨_, j, G, rfl, h0, J⟩
   have X := H
   obtain ⟨k, l, m, n, o, p, q, r, rfl, _, _, _, i0, j0, k0, l0, _, _, _⟩ := wr_open h0
   have H := H.addM K i0
   have H := H.addO X K j0
   have H := H.addO X K k0
   have H := H.addO X K l0
   have Y := gotOf_keep J
   have q0 := congrArg List.length Y.1
   intro hS
   refine uHP hS 6 ?_
   refine RH.sto ?_
   refine uWC 44 16 ((rdV s.read a d f g h i) ++ ([.slice u s.to.length x, .int .u64 s.epoch] : List Value) ++ (wrV j k l m n o p q r) ++ ([.bool s.ready, .I s.done, .slice none 0 0] : List Value)).toArray H 0 rfl ?_
   intro _ d0 H
   have Z := hS.sto d0 (.inr (by simp))
   refine ⟨Z, ?_⟩
   have hS := Z
   refine uHP hS 3 ?_
   refine RH.sto ?_
   refine uWC 28 27 ((rdV s.read a d f g h i) ++ ([.slice u s.to.length x, .int .u64 s.epoch] : List Value) ++ (wrV j k l m n o p q r) ++ ([.bool s.ready, .I G, .slice none 0 0] : List Value)).toArray H 0 rfl ?_
   intro _ e0 H
   have a0 := hS.sto e0 (.inr (by simp))
   refine ⟨a0, ?_⟩
   have hS := a0
   refine uHF hS 0 ?_
   refine uR 2 [.c [3, 0], .c [4]] ?_
   refine WK.drawH1 [b5] (.leaf [(0, .qui), (1, .qui), (2, .qui), (3, .qui), (4, .qui), (5, .qui), (6, .qui), (7, .qui), (8, .qui), (9, .qui), (10, .qui), (11, .qui), (12, .qui), (13, .seq), (14, .qui), (15, .qui)]) Try_mixed (by as_aux_lemma => kernel_rfl) (by as_aux_lemma => kernel_rfl) ?_
   intro r0 b0
   have H := H.draw
   rw [← b0] at H
   clear b0
   have hS := Chg.refl r0 [b5]
   refine RG.leaf' [(0, .qui), (1, .qui), (2, .qui), (3, .qui), (4, .qui), (5, .qui), (6, .qui), (7, .qui), (8, .qui), (9, .qui), (10, .qui), (11, .qui), (12, .qui), (13, .seq), (14, .qui), (15, .qui)] (by as_aux_lemma => kernel_rfl) ?_
   refine uHP hS 3 ?_
   refine uHV 46 0 hS (H.cells 0 rfl) (nq1 (H.raws 0 1 rfl rfl (by decide))) ?_
   refine uHP hS 3 ?_
   refine uHV 31 28 hS (H.cells 0 rfl) (nq1 (H.raws 0 1 rfl rfl (by decide))) ?_
   refine uHP hS 4 ?_
   refine uHV 28 27 hS (H.cells 0 rfl) (nq1 (H.raws 0 1 rfl rfl (by decide))) ?_
   have Hr := H
   refine RH.sto ?_
   refine uWC 46 0 ((rdV s.read a d f g h i) ++ ([.slice u s.to.length x, .int .u64 s.epoch] : List Value) ++ (wrV j k l m n o p q r) ++ ([.bool s.ready, .I G] : List Value)).toArray H 1 rfl ?_
   intro _ f0 H
   have c0 := hS.sto f0 (.inr (by simp))
   refine ⟨c0, ?_⟩
   have hS := c0
   refine uHF hS 2 ?_
   refine qRB (.tuple #[.agg ((rdV s.read a d f g h i) ++ ([.slice u s.to.length x, .int .u64 s.epoch] : List Value) ++ (wrV j k l m n o p q r) ++ ([.bool s.ready, .I G] : List Value)).toArray, .slice none 0 0, .I G]) Tryz.func29 (v3 (.cell 4 46) (.tmp 5) (.tmp 6) (vC (H.cells 1 rfl)) vT vT) ?_
   have s0 := hbe G (by rw [← J])
   exact ⟨_, rfl, H.done, [.string s.read.object.key, .int .u64 s.read.object.version, .I s.read.object.size, .int .u32 ((s.read.object.sum.toNat : Nat) : Int), .I s.read.object.group, .int .u64 s.read.object.epoch, .slice a s.read.object.nodes.length d, .I s.read.kk, .I s.read.nn, .slice f s.read.pieces.length g, .slice h s.read.bad.length i, .I s.read.waited, .I s.read.limit, .I s.read.done, .slice u s.to.length x, .int .u64 s.epoch, .int .u64 j.client, .int .u64 j.seq, .string j.key, .slice k j.heads.length l, .slice m j.chunks.length n, .slice o j.nodes.length p, .slice q j.acks.length r, .I j.waited, .I j.limit, .I j.done, .bool s.ready, .I G], j, G, rfl, H.out (shf_mk (y0 := s.read) (y3 := j) (rd_mkB (by unfold rdB; omega) (H.rp 4 rfl) (H.rp 5 rfl) (H.rp 6 rfl)) (H.rp 7 rfl) u64a (wr_mkV u64a u64a ⟨rfl, by first | assumption | (simp [maxLen]; done) | decide⟩ (H.rp 3 rfl) (H.rp 2 rfl) (H.rp 1 rfl) (H.rp 0 rfl) i64a i64a i64a) Shape.bool_mk i64a), J⟩
  ·
   exact absurd (hy0.symm.trans g0) (by decide)
end Go.Proofs.YtppcdmbkgficiaaGreat
