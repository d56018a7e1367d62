import Derived.Test.YtppcdmbkgficiaaE6
import Derived.Test.YtppcdmbkgficiaaP7
namespace Go.Proofs.Ytppcdmbkgficiaa
open Go.BX

theorem copyE_own {S : Nat → Prop} {w : World} {xs : List (BitVec 8)} {a : Option Addr} {c : Nat} (h : SB.rep S w [.slice a xs.length c] xs) (hby : xs.length ≤ 140737488355328) :
 Calls Try.prog 33 #[.slice a xs.length c] w (Ret fun v w' => Ext w w' ∧ Hp w S [] [] [⟨Sb, 5, v, xs⟩] [] w') := by
 refine qS (fn := Try.f33) (n := 6) (σ := [(0, .slice a xs.length c)]) Try.func33 ?_
 have H := Hp.startF (w := w) (S := S) (G := [Rp SB [.slice a xs.length c] xs]) (.rp h .nil)
 refine qR 3 [.c [1, 0], .c [2]] [(0, .slice a xs.length c)] ?_
 refine qG (sq 0 4) ?_
 refine RW.new (κ := .seq) (d := some 3) (r := (sq 1 4)) (o := .cells #[] 5 (0, 0)) (v := fun b => .slice (some ⟨b, 0, none⟩) 0 0) (fun b => by as_aux_lemma => kernel_rfl) (nofun) H ?_
 intro b1 w2 H
 refine qP 1 (sq 2 4) [(3, .slice (some ⟨b1, 0, none⟩) 0 0), (4, .slice a xs.length c)] ?_
 have H := H.toOwn (sh := Sb) (xs := []) (cap := 0) (by rfl) (Nat.le_refl _) (Nat.zero_le _) (by simp) EsP.nil
 have H : Hp w S [] [] [⟨Sb, 5, .slice (some ⟨b1, 0, none⟩) 0 0, []⟩] [Rp SB [.slice a xs.length c] xs] _ := H
 refine RW.appendW (d := some 5) (r := (sq 3 4)) (T := 23) (ty := 23) (e := 5) (m := 1) (by_ := 1) (v := .slice (some ⟨b1, 0, none⟩) 0 0) (a2 := a) (l2 := xs.length) (c2 := c) (zs := xs) (by as_aux_lemma => kernel_rfl) (by as_aux_lemma => kernel_rfl) rfl H 0 rfl 0 rfl (rfl) (by omega) ?_
 intro a3 c4 w6 H hc5
 have H : Hp w S [] [] [⟨Sb, 5, .slice a3 xs.length c4, xs⟩] [Rp SB [.slice a xs.length c] xs] _ := H
 refine qF 1 [(2, .slice a3 xs.length c4)] ?_
 refine qT (.slice a3 xs.length c4) Try.func33 ?_
 exact ⟨_, rfl, H.done, H.pick [] rfl⟩

set_option maxHeartbeats 2000000 in
theorem cuts_spec {S : Nat → Prop} {w : World} {xs : List (BitVec 8)} {a : Option Addr} {c : Nat} {id : CID} {ids : List Value} (size k n : Int) (h : SB.rep S w [.slice a xs.length c] xs) (hid : cidS.rep S w ids id) (hbk : xs.length ≤ 1048576) :
 Calls Try.prog 9 #[.slice a xs.length c, .I size, .I k, .I n, .agg ids.toArray] w (Ret fun v w' => Ext w w' ∧ v = .bool true) := by
 obtain ⟨rfl, hb1, hb2, hb3⟩ := cid_open hid
 refine qS (fn := Try.f9) (n := 136) (σ := [(0, .slice a xs.length c), (1, .I size), (2, .I k), (3, .I n), (4, .agg #[.int .u64 id.version, .I id.index, .int .u64 id.epoch])]) Try.func9 ?_
 have H := Hp.startF (w := w) (S := S) (G := [Rp SB [.slice a xs.length c] xs]) (.rp h .nil)
 refine qR 1 [.c [0], .c [1]] [(0, .slice a xs.length c), (1, .I size), (2, .I k), (3, .I n), (4, .agg #[.int .u64 id.version, .I id.index, .int .u64 id.epoch])] ?_
 refine qG (sq 0 2) ?_
 refine qB .seq 9 (sq 1 2) #[.int .u64 id.version, .I id.index, .int .u64 id.epoch] 50 H ?_
 intro b1 w2 H
 refine qF 1 [(0, .slice a xs.length c), (1, .I size), (2, .I k), (3, .I n), (9, .P b1 0)] ?_
 refine qR 1 [.c [1, 0], .c [2]] [(0, .slice a xs.length c), (1, .I size), (2, .I k), (3, .I n), (9, .P b1 0)] ?_
 refine qG (sq 0 3) ?_
 refine qP 1 (sq 1 3) [(0, .slice a xs.length c), (1, .I size), (2, .I k), (3, .I n), (9, .P b1 0), (28, .slice a xs.length c)] ?_
 refine qK .seq (some 29) (sq 2 3) 33 #[.slice a xs.length c] (copyE_own (H.rp 0 rfl) (by omega)) ?_
 rintro v4 w3 - H'
 have H := H.back (M1 := []) (W1 := []) H'
 obtain ⟨a5, c6, rfl, hc7, hm8⟩ := H.ownForm 0 rfl
 have H : Hp w S [] [(b1, .cells #[.int .u64 id.version, .I id.index, .int .u64 id.epoch] 50 (0, 0))] [⟨Sb, 5, .slice a5 xs.length c6, xs⟩] [Rp SB [.slice a xs.length c] xs] _ := H
 refine qF 1 [(0, .slice a xs.length c), (1, .I size), (2, .I k), (3, .I n), (9, .P b1 0), (11, .slice a5 xs.length c6)] ?_
 refine qR 1 [.c [2, 0], .c [3]] [(0, .slice a xs.length c), (1, .I size), (2, .I k), (3, .I n), (9, .P b1 0), (11, .slice a5 xs.length c6)] ?_
 refine qG (sq 0 9) ?_
 refine qP 3 (sq 3 9) [(0, .slice a xs.length c), (1, .I size), (2, .I k), (3, .I n), (9, .P b1 0), (11, .slice a5 xs.length c6), (31, .slice a5 xs.length c6), (32, .I k), (33, .I n)] ?_
 have H : Hp w S [] [(b1, .cells #[.int .u64 id.version, .I id.index, .int .u64 id.epoch] 50 (0, 0))] [] [Rp SB [.slice a5 xs.length c6] xs, Rp SB [.slice a xs.length c] xs] _ := H.freezeW 0 rfl
 refine qK .seq (some 34) (sq 4 9) 29 #[.slice a5 xs.length c6, .I k, .I n] (encS_gen (S := Av S w [] (idsOf [(b1, .cells #[.int .u64 id.version, .I id.index, .int .u64 id.epoch] 50 (0, 0))] [])) (xs := xs) k n (H.rp 0 rfl)) ?_
 rintro _ w9 hE12 ⟨a10, c11, rfl, hr13⟩
 have H := H.addN hE12 (F := Rp (Shape.slice SB) [.slice a10 (encG xs k n).length c11] (encG xs k n)) hr13
 refine qF 5 [(0, .slice a xs.length c), (1, .I size), (2, .I k), (3, .I n), (9, .P b1 0), (11, .slice a5 xs.length c6), (12, .slice a10 (encG xs k n).length c11), (13, .I (encC xs k n))] ?_
 refine qR 1 [.c [3, 0], .c [4]] [(0, .slice a xs.length c), (1, .I size), (2, .I k), (3, .I n), (9, .P b1 0), (11, .slice a5 xs.length c6), (12, .slice a10 (encG xs k n).length c11), (13, .I (encC xs k n))] ?_
 refine qG (sq 0 9) ?_
 refine qP 3 (sq 3 9) [(0, .slice a xs.length c), (1, .I size), (2, .I k), (3, .I n), (9, .P b1 0), (11, .slice a5 xs.length c6), (12, .slice a10 (encG xs k n).length c11), (13, .I (encC xs k n)), (38, .slice a xs.length c), (39, .I k), (40, .I n)] ?_
 refine qK .seq (some 41) (sq 4 9) 34 #[.slice a xs.length c, .I k, .I n] (encR_gen (S := Av S w [] (idsOf [(b1, .cells #[.int .u64 id.version, .I id.index, .int .u64 id.epoch] 50 (0, 0))] [])) (xs := xs) k n (H.rp 2 rfl)) ?_
 rintro _ w14 hE17 ⟨a15, c16, rfl, hr18⟩
 have H := H.addN hE17 (F := Rp (Shape.slice SB) [.slice a15 (encG xs k n).length c16] (encG xs k n)) hr18
 refine qF 5 [(0, .slice a xs.length c), (1, .I size), (2, .I k), (3, .I n), (9, .P b1 0), (11, .slice a5 xs.length c6), (12, .slice a10 (encG xs k n).length c11), (13, .I (encC xs k n)), (14, .slice a15 (encG xs k n).length c16), (15, .I (encC xs k n))] ?_
 refine qR 1 [.c [4, 0], .c [5]] [(0, .slice a xs.length c), (1, .I size), (2, .I k), (3, .I n), (9, .P b1 0), (11, .slice a5 xs.length c6), (12, .slice a10 (encG xs k n).length c11), (13, .I (encC xs k n)), (14, .slice a15 (encG xs k n).length c16), (15, .I (encC xs k n))] ?_
 refine qG (sq 0 8) ?_
 refine qP 2 (sq 2 8) [(0, .slice a xs.length c), (1, .I size), (2, .I k), (3, .I n), (9, .P b1 0), (11, .slice a5 xs.length c6), (12, .slice a10 (encG xs k n).length c11), (13, .I (encC xs k n)), (14, .slice a15 (encG xs k n).length c16), (15, .I (encC xs k n)), (45, .I size), (46, .I k)] ?_
 refine qK .seq (some 47) (sq 3 8) 35 #[.I size, .I k] (lenS_gen (S := fun _ => True) size k) ?_
 rintro _ w19 hE20 rfl
 have H := H.ext hE20
 refine qF 5 [(0, .slice a xs.length c), (1, .I size), (2, .I k), (3, .I n), (9, .P b1 0), (11, .slice a5 xs.length c6), (12, .slice a10 (encG xs k n).length c11), (13, .I (encC xs k n)), (14, .slice a15 (encG xs k n).length c16), (15, .I (encC xs k n)), (16, .I (llG size k)), (17, .I (elG size k))] ?_
 refine qR 1 [.c [5, 0], .c [6]] [(0, .slice a xs.length c), (1, .I size), (2, .I k), (3, .I n), (9, .P b1 0), (11, .slice a5 xs.length c6), (12, .slice a10 (encG xs k n).length c11), (13, .I (encC xs k n)), (14, .slice a15 (encG xs k n).length c16), (15, .I (encC xs k n)), (16, .I (llG size k)), (17, .I (elG size k))] ?_
 refine qG (sq 0 8) ?_
 refine qP 2 (sq 2 8) [(0, .slice a xs.length c), (1, .I size), (2, .I k), (3, .I n), (9, .P b1 0), (11, .slice a5 xs.length c6), (12, .slice a10 (encG xs k n).length c11), (13, .I (encC xs k n)), (14, .slice a15 (encG xs k n).length c16), (15, .I (encC xs k n)), (16, .I (llG size k)), (17, .I (elG size k)), (51, .I size), (52, .I k)] ?_
 refine qK .seq (some 53) (sq 3 8) 36 #[.I size, .I k] (lenR_gen (S := fun _ => True) size k) ?_
 rintro _ w21 hE22 rfl
 have H := H.ext hE22
 refine qF 5 [(0, .slice a xs.length c), (1, .I size), (2, .I k), (3, .I n), (9, .P b1 0), (11, .slice a5 xs.length c6), (12, .slice a10 (encG xs k n).length c11), (13, .I (encC xs k n)), (14, .slice a15 (encG xs k n).length c16), (15, .I (encC xs k n)), (16, .I (llG size k)), (17, .I (elG size k)), (18, .I (llG size k)), (19, .I (elG size k))] ?_
 refine qR 2 [.c [6, 0, 0], .c [6, 0, 1], .c [7]] [(0, .slice a xs.length c), (1, .I size), (2, .I k), (3, .I n), (9, .P b1 0), (11, .slice a5 xs.length c6), (12, .slice a10 (encG xs k n).length c11), (13, .I (encC xs k n)), (14, .slice a15 (encG xs k n).length c16), (15, .I (encC xs k n)), (16, .I (llG size k)), (17, .I (elG size k)), (18, .I (llG size k)), (19, .I (elG size k))] ?_
 refine qG (sq 0 25) ?_
 refine qP 2 (sq 2 25) [(0, .slice a xs.length c), (1, .I size), (2, .I k), (3, .I n), (9, .P b1 0), (11, .slice a5 xs.length c6), (13, .I (encC xs k n)), (14, .slice a15 (encG xs k n).length c16), (15, .I (encC xs k n)), (16, .I (llG size k)), (17, .I (elG size k)), (18, .I (llG size k)), (19, .I (elG size k)), (56, .slice a10 (encG xs k n).length c11), (57, .slice a15 (encG xs k n).length c16)] ?_
 refine qK .seq (some 58) (sq 3 25) 37 #[.slice a10 (encG xs k n).length c11, .slice a15 (encG xs k n).length c16] (rows02_eq (S := Av S w [] (idsOf [(b1, .cells #[.int .u64 id.version, .I id.index, .int .u64 id.epoch] 50 (0, 0))] [])) (ms := encG xs k n) (H.rp 1 rfl) (H.rp 0 rfl)) ?_
 rintro _ w23 hE24 rfl
 have H := H.ext hE24
 refine qP 7 (sq 10 25) [(0, .slice a xs.length c), (1, .I size), (2, .I k), (3, .I n), (9, .P b1 0), (11, .slice a5 xs.length c6), (14, .slice a15 (encG xs k n).length c16), (16, .I (llG size k)), (17, .I (elG size k)), (18, .I (llG size k)), (19, .I (elG size k)), (65, .bool ((encC xs k n) != (encC xs k n)))] ?_
 refine tN (fun b_ => [(0, .slice a xs.length c), (1, .I size), (2, .I k), (3, .I n), (9, .P b1 0), (11, .slice a5 xs.length c6), (14, .slice a15 (encG xs k n).length c16), (16, .I (llG size k)), (17, .I (elG size k)), (18, .I (llG size k)), (19, .I (elG size k)), (65, .bool b_)]) (encC xs k n) (encC xs k n) (fun h25 => ?_) (fun h25 => ?_)
 ·
  exact absurd rfl h25
 ·
  refine qP 5 (sq 15 25) [(0, .slice a xs.length c), (1, .I size), (2, .I k), (3, .I n), (9, .P b1 0), (11, .slice a5 xs.length c6), (14, .slice a15 (encG xs k n).length c16), (17, .I (elG size k)), (19, .I (elG size k)), (70, .bool ((llG size k) != (llG size k)))] ?_
  refine tN (fun b_ => [(0, .slice a xs.length c), (1, .I size), (2, .I k), (3, .I n), (9, .P b1 0), (11, .slice a5 xs.length c6), (14, .slice a15 (encG xs k n).length c16), (17, .I (elG size k)), (19, .I (elG size k)), (70, .bool b_)]) (llG size k) (llG size k) (fun h26 => ?_) (fun h26 => ?_)
  ·
   exact absurd rfl h26
  ·
   refine qP 5 (sq 20 25) [(0, .slice a xs.length c), (1, .I size), (2, .I k), (3, .I n), (9, .P b1 0), (11, .slice a5 xs.length c6), (14, .slice a15 (encG xs k n).length c16), (75, .bool ((elG size k) != (elG size k)))] ?_
   refine tN (fun b_ => [(0, .slice a xs.length c), (1, .I size), (2, .I k), (3, .I n), (9, .P b1 0), (11, .slice a5 xs.length c6), (14, .slice a15 (encG xs k n).length c16), (75, .bool b_)]) (elG size k) (elG size k) (fun h27 => ?_) (fun h27 => ?_)
   ·
    exact absurd rfl h27
   ·
    refine qP 2 (sq 22 25) [(0, .slice a xs.length c), (1, .I size), (2, .I k), (3, .I n), (9, .P b1 0), (14, .slice a15 (encG xs k n).length c16), (75, .bool false), (76, .slice a5 xs.length c6), (77, .slice a xs.length c)] ?_
    refine qK .seq (some 78) (sq 23 25) 30 #[.slice a5 xs.length c6, .slice a xs.length c] (same01_spec (S := Av S w [] (idsOf [(b1, .cells #[.int .u64 id.version, .I id.index, .int .u64 id.epoch] 50 (0, 0))] [])) (xs := xs) (ys := xs) (H.rp 2 rfl) (H.rp 3 rfl) (rfl)) ?_
    rintro _ w28 hE29 rfl
    have H := H.ext hE29
    refine qF 2 [(0, .slice a xs.length c), (1, .I size), (2, .I k), (3, .I n), (9, .P b1 0), (14, .slice a15 (encG xs k n).length c16), (80, .bool false)] ?_
    refine qR 3 [.c [7, 0], .c [8]] [(0, .slice a xs.length c), (1, .I size), (2, .I k), (3, .I n), (9, .P b1 0), (14, .slice a15 (encG xs k n).length c16)] ?_
    refine qG (sq 0 11) ?_
    refine qP 1 (sq 1 11) [(0, .slice a xs.length c), (1, .I size), (2, .I k), (3, .I n), (9, .P b1 0), (14, .slice a15 (encG xs k n).length c16), (82, .slice a15 (encG xs k n).length c16)] ?_
    refine qL .seq 83 (sq 2 11) 50 b1 0 0 (.agg #[.int .u64 id.version, .I id.index, .int .u64 id.epoch]) (H.cells 0 rfl) ?_
    refine qP 3 (sq 5 11) [(0, .slice a xs.length c), (1, .I size), (2, .I k), (3, .I n), (9, .P b1 0), (14, .slice a15 (encG xs k n).length c16), (82, .slice a15 (encG xs k n).length c16), (83, .agg #[.int .u64 id.version, .I id.index, .int .u64 id.epoch]), (85, .I ((xs.length : Nat) : Int)), (86, .I k)] ?_
    refine qK .seq (some 87) (sq 6 11) 38 #[.slice a15 (encG xs k n).length c16, .agg #[.int .u64 id.version, .I id.index, .int .u64 id.epoch], .I ((xs.length : Nat) : Int), .I k] (hdS_gen (S := Av S w [] (idsOf [(b1, .cells #[.int .u64 id.version, .I id.index, .int .u64 id.epoch] 50 (0, 0))] [])) (cs := encG xs k n) (id := id) ((xs.length : Nat) : Int) k (H.rp 0 rfl) (cid_mk u64a i64a u64a) encG_rows) ?_
    rintro _ w30 hE33 ⟨a31, c32, rfl, hr34⟩
    have H := H.addN hE33 (F := Rp (Shape.slice hdrS) [.slice a31 ((hdG id ((xs.length : Nat) : Int) k (encG xs k n)).length) c32] (hdG id ((xs.length : Nat) : Int) k (encG xs k n))) hr34
    refine qF 5 [(0, .slice a xs.length c), (1, .I size), (2, .I k), (3, .I n), (9, .P b1 0), (14, .slice a15 (encG xs k n).length c16), (20, .slice a31 ((hdG id ((xs.length : Nat) : Int) k (encG xs k n)).length) c32), (21, .I (hdC ((xs.length : Nat) : Int) k (encG xs k n)))] ?_
    refine qR 1 [.c [8, 0], .c [9]] [(0, .slice a xs.length c), (1, .I size), (2, .I k), (3, .I n), (9, .P b1 0), (14, .slice a15 (encG xs k n).length c16), (20, .slice a31 ((hdG id ((xs.length : Nat) : Int) k (encG xs k n)).length) c32), (21, .I (hdC ((xs.length : Nat) : Int) k (encG xs k n)))] ?_
    refine qG (sq 0 11) ?_
    refine qP 1 (sq 1 11) [(0, .slice a xs.length c), (1, .I size), (2, .I k), (3, .I n), (9, .P b1 0), (14, .slice a15 (encG xs k n).length c16), (20, .slice a31 ((hdG id ((xs.length : Nat) : Int) k (encG xs k n)).length) c32), (21, .I (hdC ((xs.length : Nat) : Int) k (encG xs k n))), (91, .slice a15 (encG xs k n).length c16)] ?_
    refine qL .seq 92 (sq 2 11) 50 b1 0 0 (.agg #[.int .u64 id.version, .I id.index, .int .u64 id.epoch]) (H.cells 0 rfl) ?_
    refine qP 3 (sq 5 11) [(1, .I size), (3, .I n), (9, .P b1 0), (14, .slice a15 (encG xs k n).length c16), (20, .slice a31 ((hdG id ((xs.length : Nat) : Int) k (encG xs k n)).length) c32), (21, .I (hdC ((xs.length : Nat) : Int) k (encG xs k n))), (91, .slice a15 (encG xs k n).length c16), (92, .agg #[.int .u64 id.version, .I id.index, .int .u64 id.epoch]), (94, .I ((xs.length : Nat) : Int)), (95, .I k)] ?_
    refine qK .seq (some 96) (sq 6 11) 39 #[.slice a15 (encG xs k n).length c16, .agg #[.int .u64 id.version, .I id.index, .int .u64 id.epoch], .I ((xs.length : Nat) : Int), .I k] (hdR_gen (S := Av S w [] (idsOf [(b1, .cells #[.int .u64 id.version, .I id.index, .int .u64 id.epoch] 50 (0, 0))] [])) (cs := encG xs k n) (id := id) ((xs.length : Nat) : Int) k (H.rp 1 rfl) (cid_mk u64a i64a u64a) encG_rows) ?_
    rintro _ w35 hE38 ⟨a36, c37, rfl, hr39⟩
    have H := H.addN hE38 (F := Rp (Shape.slice hdrS) [.slice a36 ((hdG id ((xs.length : Nat) : Int) k (encG xs k n)).length) c37] (hdG id ((xs.length : Nat) : Int) k (encG xs k n))) hr39
    refine qF 5 [(1, .I size), (3, .I n), (9, .P b1 0), (14, .slice a15 (encG xs k n).length c16), (20, .slice a31 ((hdG id ((xs.length : Nat) : Int) k (encG xs k n)).length) c32), (21, .I (hdC ((xs.length : Nat) : Int) k (encG xs k n))), (22, .slice a36 ((hdG id ((xs.length : Nat) : Int) k (encG xs k n)).length) c37), (23, .I (hdC ((xs.length : Nat) : Int) k (encG xs k n)))] ?_
    refine qR 1 [.c [9, 0], .c [10]] [(1, .I size), (3, .I n), (9, .P b1 0), (14, .slice a15 (encG xs k n).length c16), (20, .slice a31 ((hdG id ((xs.length : Nat) : Int) k (encG xs k n)).length) c32), (21, .I (hdC ((xs.length : Nat) : Int) k (encG xs k n))), (22, .slice a36 ((hdG id ((xs.length : Nat) : Int) k (encG xs k n)).length) c37), (23, .I (hdC ((xs.length : Nat) : Int) k (encG xs k n)))] ?_
    refine qG (sq 0 10) ?_
    refine qP 1 (sq 1 10) [(1, .I size), (3, .I n), (9, .P b1 0), (14, .slice a15 (encG xs k n).length c16), (20, .slice a31 ((hdG id ((xs.length : Nat) : Int) k (encG xs k n)).length) c32), (21, .I (hdC ((xs.length : Nat) : Int) k (encG xs k n))), (22, .slice a36 ((hdG id ((xs.length : Nat) : Int) k (encG xs k n)).length) c37), (23, .I (hdC ((xs.length : Nat) : Int) k (encG xs k n))), (100, .slice a15 (encG xs k n).length c16)] ?_
    refine qL .seq 101 (sq 2 10) 50 b1 0 0 (.agg #[.int .u64 id.version, .I id.index, .int .u64 id.epoch]) (H.cells 0 rfl) ?_
    refine qP 2 (sq 4 10) [(1, .I size), (3, .I n), (9, .P b1 0), (14, .slice a15 (encG xs k n).length c16), (20, .slice a31 ((hdG id ((xs.length : Nat) : Int) k (encG xs k n)).length) c32), (21, .I (hdC ((xs.length : Nat) : Int) k (encG xs k n))), (22, .slice a36 ((hdG id ((xs.length : Nat) : Int) k (encG xs k n)).length) c37), (23, .I (hdC ((xs.length : Nat) : Int) k (encG xs k n))), (100, .slice a15 (encG xs k n).length c16), (101, .agg #[.int .u64 id.version, .I id.index, .int .u64 id.epoch]), (102, .I size), (103, .I n)] ?_
    refine qK .seq (some 104) (sq 5 10) 38 #[.slice a15 (encG xs k n).length c16, .agg #[.int .u64 id.version, .I id.index, .int .u64 id.epoch], .I size, .I n] (hdS_gen (S := Av S w [] (idsOf [(b1, .cells #[.int .u64 id.version, .I id.index, .int .u64 id.epoch] 50 (0, 0))] [])) (cs := encG xs k n) (id := id) size n (H.rp 2 rfl) (cid_mk u64a i64a u64a) encG_rows) ?_
    rintro _ w40 hE43 ⟨a41, c42, rfl, hr44⟩
    have H := H.addN hE43 (F := Rp (Shape.slice hdrS) [.slice a41 ((hdG id size n (encG xs k n)).length) c42] (hdG id size n (encG xs k n))) hr44
    refine qF 5 [(1, .I size), (3, .I n), (9, .P b1 0), (14, .slice a15 (encG xs k n).length c16), (20, .slice a31 ((hdG id ((xs.length : Nat) : Int) k (encG xs k n)).length) c32), (21, .I (hdC ((xs.length : Nat) : Int) k (encG xs k n))), (22, .slice a36 ((hdG id ((xs.length : Nat) : Int) k (encG xs k n)).length) c37), (23, .I (hdC ((xs.length : Nat) : Int) k (encG xs k n))), (24, .slice a41 ((hdG id size n (encG xs k n)).length) c42), (25, .I (hdC size n (encG xs k n)))] ?_
    refine qR 1 [.c [10, 0], .c [11]] [(1, .I size), (3, .I n), (9, .P b1 0), (14, .slice a15 (encG xs k n).length c16), (20, .slice a31 ((hdG id ((xs.length : Nat) : Int) k (encG xs k n)).length) c32), (21, .I (hdC ((xs.length : Nat) : Int) k (encG xs k n))), (22, .slice a36 ((hdG id ((xs.length : Nat) : Int) k (encG xs k n)).length) c37), (23, .I (hdC ((xs.length : Nat) : Int) k (encG xs k n))), (24, .slice a41 ((hdG id size n (encG xs k n)).length) c42), (25, .I (hdC size n (encG xs k n)))] ?_
    refine qG (sq 0 10) ?_
    refine qP 1 (sq 1 10) [(1, .I size), (3, .I n), (9, .P b1 0), (20, .slice a31 ((hdG id ((xs.length : Nat) : Int) k (encG xs k n)).length) c32), (21, .I (hdC ((xs.length : Nat) : Int) k (encG xs k n))), (22, .slice a36 ((hdG id ((xs.length : Nat) : Int) k (encG xs k n)).length) c37), (23, .I (hdC ((xs.length : Nat) : Int) k (encG xs k n))), (24, .slice a41 ((hdG id size n (encG xs k n)).length) c42), (25, .I (hdC size n (encG xs k n))), (108, .slice a15 (encG xs k n).length c16)] ?_
    refine qL .seq 109 (sq 2 10) 50 b1 0 0 (.agg #[.int .u64 id.version, .I id.index, .int .u64 id.epoch]) (H.cells 0 rfl) ?_
    refine qP 2 (sq 4 10) [(20, .slice a31 ((hdG id ((xs.length : Nat) : Int) k (encG xs k n)).length) c32), (21, .I (hdC ((xs.length : Nat) : Int) k (encG xs k n))), (22, .slice a36 ((hdG id ((xs.length : Nat) : Int) k (encG xs k n)).length) c37), (23, .I (hdC ((xs.length : Nat) : Int) k (encG xs k n))), (24, .slice a41 ((hdG id size n (encG xs k n)).length) c42), (25, .I (hdC size n (encG xs k n))), (108, .slice a15 (encG xs k n).length c16), (109, .agg #[.int .u64 id.version, .I id.index, .int .u64 id.epoch]), (110, .I size), (111, .I n)] ?_
    refine qK .seq (some 112) (sq 5 10) 39 #[.slice a15 (encG xs k n).length c16, .agg #[.int .u64 id.version, .I id.index, .int .u64 id.epoch], .I size, .I n] (hdR_gen (S := Av S w [] (idsOf [(b1, .cells #[.int .u64 id.version, .I id.index, .int .u64 id.epoch] 50 (0, 0))] [])) (cs := encG xs k n) (id := id) size n (H.rp 3 rfl) (cid_mk u64a i64a u64a) encG_rows) ?_
    rintro _ w45 hE48 ⟨a46, c47, rfl, hr49⟩
    have H := H.addN hE48 (F := Rp (Shape.slice hdrS) [.slice a46 ((hdG id size n (encG xs k n)).length) c47] (hdG id size n (encG xs k n))) hr49
    refine qF 5 [(20, .slice a31 ((hdG id ((xs.length : Nat) : Int) k (encG xs k n)).length) c32), (21, .I (hdC ((xs.length : Nat) : Int) k (encG xs k n))), (22, .slice a36 ((hdG id ((xs.length : Nat) : Int) k (encG xs k n)).length) c37), (23, .I (hdC ((xs.length : Nat) : Int) k (encG xs k n))), (24, .slice a41 ((hdG id size n (encG xs k n)).length) c42), (25, .I (hdC size n (encG xs k n))), (26, .slice a46 ((hdG id size n (encG xs k n)).length) c47), (27, .I (hdC size n (encG xs k n)))] ?_
    refine qR 1 [.c [11, 0], .c [12]] [(20, .slice a31 ((hdG id ((xs.length : Nat) : Int) k (encG xs k n)).length) c32), (21, .I (hdC ((xs.length : Nat) : Int) k (encG xs k n))), (22, .slice a36 ((hdG id ((xs.length : Nat) : Int) k (encG xs k n)).length) c37), (23, .I (hdC ((xs.length : Nat) : Int) k (encG xs k n))), (24, .slice a41 ((hdG id size n (encG xs k n)).length) c42), (25, .I (hdC size n (encG xs k n))), (26, .slice a46 ((hdG id size n (encG xs k n)).length) c47), (27, .I (hdC size n (encG xs k n)))] ?_
    refine qG (sq 0 22) ?_
    refine qP 2 (sq 2 22) [(21, .I (hdC ((xs.length : Nat) : Int) k (encG xs k n))), (23, .I (hdC ((xs.length : Nat) : Int) k (encG xs k n))), (24, .slice a41 ((hdG id size n (encG xs k n)).length) c42), (25, .I (hdC size n (encG xs k n))), (26, .slice a46 ((hdG id size n (encG xs k n)).length) c47), (27, .I (hdC size n (encG xs k n))), (115, .slice a31 ((hdG id ((xs.length : Nat) : Int) k (encG xs k n)).length) c32), (116, .slice a36 ((hdG id ((xs.length : Nat) : Int) k (encG xs k n)).length) c37)] ?_
    refine qK .seq (some 117) (sq 3 22) 40 #[.slice a31 ((hdG id ((xs.length : Nat) : Int) k (encG xs k n)).length) c32, .slice a36 ((hdG id ((xs.length : Nat) : Int) k (encG xs k n)).length) c37] (heads04_eq (S := Av S w [] (idsOf [(b1, .cells #[.int .u64 id.version, .I id.index, .int .u64 id.epoch] 50 (0, 0))] [])) (ms := hdG id ((xs.length : Nat) : Int) k (encG xs k n)) (H.rp 3 rfl) (H.rp 2 rfl)) ?_
    rintro _ w50 hE51 rfl
    have H := H.ext hE51
    refine qP 6 (sq 9 22) [(24, .slice a41 ((hdG id size n (encG xs k n)).length) c42), (25, .I (hdC size n (encG xs k n))), (26, .slice a46 ((hdG id size n (encG xs k n)).length) c47), (27, .I (hdC size n (encG xs k n))), (123, .bool ((hdC ((xs.length : Nat) : Int) k (encG xs k n)) == (hdC ((xs.length : Nat) : Int) k (encG xs k n))))] ?_
    refine tE (fun b_ => [(24, .slice a41 ((hdG id size n (encG xs k n)).length) c42), (25, .I (hdC size n (encG xs k n))), (26, .slice a46 ((hdG id size n (encG xs k n)).length) c47), (27, .I (hdC size n (encG xs k n))), (123, .bool b_)]) (hdC ((xs.length : Nat) : Int) k (encG xs k n)) (hdC ((xs.length : Nat) : Int) k (encG xs k n)) (fun h52 => ?_) (fun h52 => ?_)
    ·
     refine qP 2 (sq 11 22) [(25, .I (hdC size n (encG xs k n))), (27, .I (hdC size n (encG xs k n))), (123, .bool true), (124, .slice a41 ((hdG id size n (encG xs k n)).length) c42), (125, .slice a46 ((hdG id size n (encG xs k n)).length) c47)] ?_
     refine qK .seq (some 126) (sq 12 22) 40 #[.slice a41 ((hdG id size n (encG xs k n)).length) c42, .slice a46 ((hdG id size n (encG xs k n)).length) c47] (heads04_eq (S := Av S w [] (idsOf [(b1, .cells #[.int .u64 id.version, .I id.index, .int .u64 id.epoch] 50 (0, 0))] [])) (ms := hdG id size n (encG xs k n)) (H.rp 1 rfl) (H.rp 0 rfl)) ?_
     rintro _ w53 hE54 rfl
     have H := H.ext hE54
     refine qP 7 (sq 19 22) [(133, .bool ((hdC size n (encG xs k n)) == (hdC size n (encG xs k n))))] ?_
     refine tE (fun b_ => [(133, .bool b_)]) (hdC size n (encG xs k n)) (hdC size n (encG xs k n)) (fun h55 => ?_) (fun h55 => ?_)
     ·
      refine qK .seq (some 134) (sq 20 22) 28 #[] (heads_spec (S := fun _ => True)) ?_
      rintro _ w56 hE57 rfl
      have H := H.ext hE57
      refine qF 2 [(10, .bool true)] ?_
      refine qT (.bool true) Try.func9 ?_
      exact ⟨_, rfl, H.done, rfl⟩
     ·
      exact absurd rfl h55
    ·
     exact absurd rfl h52


end Go.Proofs.Ytppcdmbkgficiaa
