import Derived.Test.YtppcdmbkgficiaaSBxA
import Derived.Test.YtppcdmbkgficiaaSH3
namespace Go.Proofs.Ytppcdmbkgficiaa
open Go.BX
theorem wbegin_bad {S : Nat → Prop} {w : World} {xs : List (BitVec 8)} {a : Option Addr} {c : Nat} (client seq : Int) (key : ByteArray) (h : SB.rep S w [.slice a xs.length c] xs) {R : Res} {rs : List Value} (hR : resS.rep S w rs R) (limit : Int) (k n : Int) (hb : ¬ (okS (xs.length : Int) k n ∧ (R.nodes.length : Int) = n ∧ 1 ≤ limit ∧ limit ≤ 100000)) : Calls Try.prog 18 #[.int .u64 client, .int .u64 seq, .string key, .slice a xs.length c, .I k, .I n, .agg rs.toArray, .I limit] w (Ret fun v w' => Ext w w' ∧ v = .tuple #[.agg (wrZ).toArray, .slice none 0 0, .I 2]) := by
 by_cases ho : okS (xs.length : Int) k n
 · obtain ⟨_, _, _, _, _⟩ := id ho
   obtain ⟨k, rfl⟩ : ∃ m : Nat, k = (m : Int) := ⟨k.toNat, by omega⟩
   obtain ⟨n, rfl⟩ : ∃ m : Nat, n = (m : Int) := ⟨n.toNat, by omega⟩
   exact begin_bad2 client seq key h hR limit k n (by omega) (by omega) (by omega) (by omega) (fun q => hb ⟨ho, by omega, q.2.1, q.2.2⟩)
 · exact begin_bad1 client seq key h hR limit k n (fun q => ho ⟨by omega, by omega, q.2.1, q.2.2.1, q.2.2.2⟩)
set_option maxHeartbeats 2000000 in
theorem wbegins_ok {S : Nat → Prop} {w : World} {xs : List (BitVec 8)} {a : Option Addr} {c : Nat} (client seq : Int) (key : ByteArray) (h : SB.rep S w [.slice a xs.length c] xs) {R : Res} {rs : List Value} (hR : resS.rep S w rs R) (limit : Int) (hkey : key.size ≤ maxLen) (hc1 : 0 ≤ client ∧ client ≤ 18446744073709551615) (hc2 : 0 ≤ seq ∧ seq ≤ 18446744073709551615) (k n : Nat) (hs : xs.length ≤ 65536) (hk : 1 ≤ k) (hkn : k ≤ n) (hn : n ≤ 255) (hnn : R.nodes.length = n) (hlim : 1 ≤ limit ∧ limit ≤ 100000) :
 Calls Try.prog 3 #[.int .u64 client, .int .u64 seq, .string key, .slice a xs.length c, .I k, .I n, .agg rs.toArray, .I limit] w (Ret fun v w' => Ext w w' ∧ v = .bool true) := by
 obtain ⟨Z, a0, rfl, _, b0, E, c0⟩ := res_open hR
 refine uS1 Try.func3 ?_
 have H := Hp.startF (.rp h (.rp E .nil))
 refine uR 1 [.c [0], .c [1]] ?_
 refine qG (sq 0 2) ?_
 refine uC ((resV R Z a0).toArray) 27 H ?_
 intro _ _ H
 refine uF 1 ?_
 refine uR 1 [.c [1, 0], .c [2]] ?_
 refine qG (sq 0 17) ?_
 refine uP 6 ?_
 refine uV 27 0 (H.cells 0 rfl) ?_
 refine uP 1 ?_
 refine uK (begin_ok (xs := xs) (R := R) client seq key (H.rp 0 rfl) (res_mk i64a u64a (H.rp 1 rfl) u64a) limit hkey hc1 hc2 k n hs hk hkn hn hnn hlim) ?_
 rintro _ _ e ⟨d0, a6, c7, rfl, s, t⟩
 have b := H
 replace s : wrS.rep _ _ d0 (beginW client seq key xs k n R limit) := s
 replace t : (Shape.slice msgS).rep _ _ [.slice a6 (msgsOf (beginW client seq key xs k n R limit)).length c7] (msgsOf (beginW client seq key xs k n R limit)) := t
 obtain ⟨u, x, y, z, A, B, C, D, rfl, _, _, _, J, K, L, M, _, _, _⟩ := wr_open s
 have H := H.addM e t
 have H := H.addO b e J
 have H := H.addO b e K
 have H := H.addO b e L
 have H := H.addO b e M
 refine uP 4 ?_
 refine uC ((wrZ).toArray) 32 H ?_
 intro e0 _ H
 refine uW 32 0 (wrV (beginW client seq key xs k n R limit) u x y z A B C D).toArray H 0 rfl ?_
 intro _ H
 refine uF 2 ?_
 refine uR 1 [.c [2, 0], .c [3]] ?_
 refine qG (sq 0 17) ?_
 refine uP 6 ?_
 refine uV 27 0 (H.cells 1 rfl) ?_
 refine uP 1 ?_
 refine uK (r20begin_ok (xs := xs) (R := R) client seq key (H.rp 5 rfl) (res_mk i64a u64a (H.rp 6 rfl) u64a) limit hkey hc1 hc2 k n hs hk hkn hn hnn hlim) ?_
 rintro _ _ d ⟨N, F, G, rfl, f, g⟩
 have b := H
 replace f : wrS.rep _ _ N (beginW client seq key xs k n R limit) := f
 replace g : (Shape.slice msgS).rep _ _ [.slice F (msgsOf (beginW client seq key xs k n R limit)).length G] (msgsOf (beginW client seq key xs k n R limit)) := g
 obtain ⟨i, j, l, m, o, p, q, r, rfl, _, _, _, O, Q, T, U, _, _, _⟩ := wr_open f
 have H := H.addM d g
 have H := H.addO b d O
 have H := H.addO b d Q
 have H := H.addO b d T
 have H := H.addO b d U
 refine qP 4 (sq 13 17) [(17, .P e0 0), (18, .slice a6 ((msgsOf (beginW client seq key xs k n R limit)).length) c7), (19, .I 0), (46, .agg (wrV (beginW client seq key xs k n R limit) i j l m o p q r).toArray), (47, .slice F ((msgsOf (beginW client seq key xs k n R limit)).length) G), (48, .I 0)] ?_
 refine uC ((wrZ).toArray) 32 H ?_
 intro _ _ H
 refine uW 32 0 (wrV (beginW client seq key xs k n R limit) i j l m o p q r).toArray H 0 rfl ?_
 intro _ H
 refine uF 2 ?_
 refine uR 1 [.c [3, 0], .c [4]] ?_
 refine qG (sq 0 17) ?_
 refine uV 32 0 (H.cells 1 rfl) ?_
 refine uV 32 0 (H.cells 0 rfl) ?_
 refine uK (r20same_spec (W := (beginW client seq key xs k n R limit)) (wr_mkV u64a u64a ⟨rfl, by first | assumption | (simp [maxLen]; done) | decide⟩ (H.rp 8 rfl) (H.rp 7 rfl) (H.rp 6 rfl) (H.rp 5 rfl) i64a i64a i64a) (wr_mkV u64a u64a ⟨rfl, by first | assumption | (simp [maxLen]; done) | decide⟩ (H.rp 3 rfl) (H.rp 2 rfl) (H.rp 1 rfl) (H.rp 0 rfl) i64a i64a i64a)) ?_
 rintro _ _ V rfl
 have H := H.ext V
 refine uP 3 ?_
 refine uK (rows_eq (ms := msgsOf (beginW client seq key xs k n R limit)) (prep_okB hs hk hkn hn hnn b0 c0 (rep_ints E)) (H.rp 9 rfl) (H.rp 4 rfl)) ?_
 rintro _ _ X rfl
 have H := H.ext X
 refine uP 7 ?_
 refine uK (heads_spec (S := fun _ => True)) ?_
 rintro _ _ Y rfl
 have H := H.ext Y
 refine uF 2 ?_
 refine qT (.bool true) Try.func3 ?_
 exact ⟨_, rfl, H.done, rfl⟩
set_option maxHeartbeats 2000000 in
theorem wbegins_bad {S : Nat → Prop} {w : World} {xs : List (BitVec 8)} {a : Option Addr} {c : Nat} (client seq : Int) (key : ByteArray) (h : SB.rep S w [.slice a xs.length c] xs) {R : Res} {rs : List Value} (hR : resS.rep S w rs R) (limit : Int) (k n : Int) (hb : ¬ (okS (xs.length : Int) k n ∧ (R.nodes.length : Int) = n ∧ 1 ≤ limit ∧ limit ≤ 100000)) :
 Calls Try.prog 3 #[.int .u64 client, .int .u64 seq, .string key, .slice a xs.length c, .I k, .I n, .agg rs.toArray, .I limit] w (Ret fun v w' => Ext w w' ∧ v = .bool true) := by
 obtain ⟨b, d, rfl, _, _, l, _⟩ := res_open hR
 refine uS1 Try.func3 ?_
 have H := Hp.startF (.rp h (.rp l .nil))
 refine uR 1 [.c [0], .c [1]] ?_
 refine qG (sq 0 2) ?_
 refine uC ((resV R b d).toArray) 27 H ?_
 intro o _ H
 refine uF 1 ?_
 refine uR 1 [.c [1, 0], .c [2]] ?_
 refine qG (sq 0 17) ?_
 refine uP 6 ?_
 refine uV 27 0 (H.cells 0 rfl) ?_
 refine uP 1 ?_
 refine uK (wbegin_bad (xs := xs) (R := R) client seq key (H.rp 0 rfl) (res_mk i64a u64a (H.rp 1 rfl) u64a) limit k n hb) ?_
 rintro _ _ p rfl
 have H := H.ext p
 refine uP 4 ?_
 refine uC ((wrZ).toArray) 32 H ?_
 intro f _ H
 refine uW 32 0 (wrZ).toArray H 0 rfl ?_
 intro _ H
 refine uF 2 ?_
 refine uR 1 [.c [2, 0], .c [3]] ?_
 refine qG (sq 0 17) ?_
 refine uP 6 ?_
 refine uV 27 0 (H.cells 1 rfl) ?_
 refine uP 1 ?_
 refine uK (r20begin_bad (xs := xs) (R := R) client seq key (H.rp 0 rfl) (res_mk i64a u64a (H.rp 1 rfl) u64a) limit k n hb) ?_
 rintro _ _ q rfl
 have H := H.ext q
 refine qP 4 (sq 13 17) [(17, .P f 0), (18, .slice none 0 0), (19, .I 2), (46, .agg (wrZ).toArray), (47, .slice none 0 0), (48, .I 2)] ?_
 refine uC ((wrZ).toArray) 32 H ?_
 intro e _ H
 refine uW 32 0 (wrZ).toArray H 0 rfl ?_
 intro _ H
 refine uF 2 ?_
 refine uR 1 [.c [3, 0], .c [4]] ?_
 refine qG (sq 0 17) ?_
 refine uV 32 0 (H.cells 1 rfl) ?_
 refine uV 32 0 (H.cells 0 rfl) ?_
 refine uK (r20same_spec (S := Av S w [] (idsOf [(e, .cells (wrZ).toArray 32 (0, 0)), (f, .cells (wrZ).toArray 32 (0, 0)), (o, .cells (resV R b d).toArray 27 (0, 0))] [])) (W := ⟨0, 0, ⟨#[]⟩, [], [], [], [], 0, 0, 0⟩) (wr_mk (l0 := [.int .u64 0]) (y0 := 0) (l1 := [.int .u64 0]) (y1 := 0) (l2 := [.string (⟨#[]⟩)]) (y2 := ⟨#[]⟩) (l3 := [.slice none 0 0]) (y3 := []) (l4 := [.slice none 0 0]) (y4 := []) (l5 := [.slice none 0 0]) (y5 := []) (l6 := [.slice none 0 0]) (y6 := []) (l7 := [.I 0]) (y7 := 0) (l8 := [.I 0]) (y8 := 0) (l9 := [.I 0]) (y9 := 0) (Shape.int_mk (by decide)) (Shape.int_mk (by decide)) ⟨rfl, by first | assumption | (simp [maxLen]; done) | decide⟩ Shape.slice_nil Shape.slice_nil Shape.slice_nil Shape.slice_nil (Shape.int_mk (by decide)) (Shape.int_mk (by decide)) (Shape.int_mk (by decide))) (wr_mk (l0 := [.int .u64 0]) (y0 := 0) (l1 := [.int .u64 0]) (y1 := 0) (l2 := [.string (⟨#[]⟩)]) (y2 := ⟨#[]⟩) (l3 := [.slice none 0 0]) (y3 := []) (l4 := [.slice none 0 0]) (y4 := []) (l5 := [.slice none 0 0]) (y5 := []) (l6 := [.slice none 0 0]) (y6 := []) (l7 := [.I 0]) (y7 := 0) (l8 := [.I 0]) (y8 := 0) (l9 := [.I 0]) (y9 := 0) (Shape.int_mk (by decide)) (Shape.int_mk (by decide)) ⟨rfl, by first | assumption | (simp [maxLen]; done) | decide⟩ Shape.slice_nil Shape.slice_nil Shape.slice_nil Shape.slice_nil (Shape.int_mk (by decide)) (Shape.int_mk (by decide)) (Shape.int_mk (by decide)))) ?_
 rintro _ _ g rfl
 have H := H.ext g
 refine uP 3 ?_
 refine uK (rows_eq (S := Av S w [] (idsOf [(e, .cells (wrZ).toArray 32 (0, 0)), (f, .cells (wrZ).toArray 32 (0, 0)), (o, .cells (resV R b d).toArray 27 (0, 0))] [])) (ms := ([] : List Msg)) (by intro m hm; cases hm) Shape.slice_nil Shape.slice_nil) ?_
 rintro _ _ i rfl
 have H := H.ext i
 refine uP 7 ?_
 refine uK (heads_spec (S := fun _ => True)) ?_
 rintro _ _ j rfl
 have H := H.ext j
 refine uF 2 ?_
 refine qT (.bool true) Try.func3 ?_
 exact ⟨_, rfl, H.done, rfl⟩
end Go.Proofs.Ytppcdmbkgficiaa
