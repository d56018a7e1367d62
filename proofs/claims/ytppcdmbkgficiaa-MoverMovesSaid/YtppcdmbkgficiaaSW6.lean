import Derived.Test.YtppcdmbkgficiaaSW4
namespace Go.Proofs.Ytppcdmbkgficiaa
open Go.BX
theorem gotOf_keep {W D : Wr} {e kind frm : Int} {hd : Hdr} {ok : Bool} (h : (D, e) = gotOf W kind frm hd ok) : D.heads = W.heads ∧ D.nodes = W.nodes ∧ D.chunks = W.chunks := by
 unfold gotOf at h
 split at h
 · obtain ⟨rfl, -⟩ := Prod.mk.inj h; exact ⟨rfl, rfl, rfl⟩
 · split at h
   · obtain ⟨rfl, -⟩ := Prod.mk.inj h; exact ⟨rfl, rfl, rfl⟩
   · split at h
     · obtain ⟨rfl, -⟩ := Prod.mk.inj h; exact ⟨rfl, rfl, rfl⟩
     · split at h <;> (obtain ⟨rfl, -⟩ := Prod.mk.inj h; exact ⟨rfl, rfl, rfl⟩)
theorem enc_all {xs : List (BitVec 8)} {k n : Nat} : ∀ d ∈ enc xs k n, d.length = lenOf xs.length k := by
 intro d hd
 unfold enc at hd
 rcases List.mem_append.1 hd with h | h
 · exact dataOf_all _ _ _ d h
 · obtain ⟨j, _, rfl⟩ := List.mem_map.1 h
   exact mixAll_len List.length_replicate (dataOf_all _ _ _)
def beginW (client seq : Int) (key : ByteArray) (xs : List (BitVec 8)) (k n : Nat) (R : Res) (limit : Int) : Wr :=
 ⟨client, seq, key, headsOf ⟨R.version, 0, R.epoch⟩ xs.length k (enc xs k n), enc xs k n, R.nodes, [], 0, limit, 0⟩
set_option maxHeartbeats 2000000 in
theorem begin_ok {S : Nat → Prop} {w : World} {xs : List (BitVec 8)} {a : Option Addr} {c : Nat} (client seq : Int) (key : ByteArray) (h : SB.rep S w [.slice a xs.length c] xs) {R : Res} {rs : List Value} (hR : resS.rep S w rs R) (limit : Int) (hkey : key.size ≤ maxLen) (hc1 : 0 ≤ client ∧ client ≤ 18446744073709551615) (hc2 : 0 ≤ seq ∧ seq ≤ 18446744073709551615) (k n : Nat) (hs : xs.length ≤ 65536) (hk : 1 ≤ k) (hkn : k ≤ n) (hn : n ≤ 255) (hnn : R.nodes.length = n) (hlim : 1 ≤ limit ∧ limit ≤ 100000) :
 Calls Try.prog 18 #[.int .u64 client, .int .u64 seq, .string key, .slice a xs.length c, .I k, .I n, .agg rs.toArray, .I limit] w (Ret fun v w' => Ext w w' ∧ ∃ (ds : List Value) (a : Option Addr) (c : Nat), v = .tuple #[.agg ds.toArray, .slice a (msgsOf (beginW client seq key xs k n R limit)).length c, .I 0] ∧ wrS.rep (Nw S w) w' ds (beginW client seq key xs k n R limit) ∧ (Shape.slice msgS).rep (Nw S w) w' [.slice a (msgsOf (beginW client seq key xs k n R limit)).length c] (msgsOf (beginW client seq key xs k n R limit))) := by
 obtain ⟨a2R, k2R, rfl, h0R, h1R, h2R, h3R⟩ := res_open hR
 have henc := enc_len (xs := xs) hkn
 have hhl : (headsOf ⟨R.version, 0, R.epoch⟩ xs.length k (enc xs k n)).length = (enc xs k n).length := headsOf_len
 have hcb9 : ∀ c ∈ enc xs k n, c.length ≤ 1000000 := fun c hc => by have h1 := enc_all c hc; have h2 := lenOf_le (size := xs.length) (k := k) (by omega); omega
 have hRn : 0 ≤ (0 : Int) := by decide
 refine qS (fn := Try.f18) (n := 75) (σ := [(0, .int .u64 client), (1, .int .u64 seq), (2, .string key), (3, .slice a xs.length c), (4, .I k), (5, .I n), (6, .agg (resV R a2R k2R).toArray), (7, .I limit)]) Try.func18 ?_
 have H := Hp.startF (w := w) (S := S) (G := [Rp SB [.slice a xs.length c] xs, Rp Li [.slice a2R R.nodes.length k2R] R.nodes]) (.rp h (.rp h2R .nil))
 refine qR 1 [.c [0], .c [1]] [(0, .int .u64 client), (1, .int .u64 seq), (2, .string key), (3, .slice a xs.length c), (4, .I k), (5, .I n), (6, .agg (resV R a2R k2R).toArray), (7, .I limit)] ?_
 refine qG (sq 0 4) ?_
 refine qB .seq 14 (sq 1 4) ((resV R a2R k2R).toArray) 27 H ?_
 intro b1 w2 H
 refine qB .seq 16 (sq 2 4) ((wrZ).toArray) 32 H ?_
 intro b3 w4 H
 refine qF 2 [(0, .int .u64 client), (1, .int .u64 seq), (2, .string key), (3, .slice a xs.length c), (4, .I k), (5, .I n), (7, .I limit), (14, .P b1 0), (16, .P b3 0)] ?_
 refine qR 1 [.c [1, 0], .c [2]] [(0, .int .u64 client), (1, .int .u64 seq), (2, .string key), (3, .slice a xs.length c), (4, .I k), (5, .I n), (7, .I limit), (14, .P b1 0), (16, .P b3 0)] ?_
 refine qG (sq 0 9) ?_
 refine qP 3 (sq 3 9) [(0, .int .u64 client), (1, .int .u64 seq), (2, .string key), (3, .slice a xs.length c), (4, .I k), (5, .I n), (7, .I limit), (14, .P b1 0), (16, .P b3 0), (25, .slice a xs.length c), (26, .I k), (27, .I n)] ?_
 refine qK .seq (some 28) (sq 4 9) 29 #[.slice a xs.length c, .I k, .I n] (encode_ok (xs := xs) k n (H.rp 0 rfl) (by omega) (by omega) (by omega) (by omega)) ?_
 rintro _ w5 hE8 ⟨a6, c7, rfl, hr9⟩
 have H := H.addN hE8 (F := Rp (Shape.slice SB) [.slice a6 (enc xs k n).length c7] (enc xs k n)) hr9
 refine qF 5 [(0, .int .u64 client), (1, .int .u64 seq), (2, .string key), (3, .slice a xs.length c), (4, .I k), (5, .I n), (7, .I limit), (14, .P b1 0), (16, .P b3 0), (19, .slice a6 (enc xs k n).length c7), (20, .I 0)] ?_
 refine qR 2 [.c [2, 0, 0], .c [2, 0, 1], .c [3]] [(0, .int .u64 client), (1, .int .u64 seq), (2, .string key), (3, .slice a xs.length c), (4, .I k), (5, .I n), (7, .I limit), (14, .P b1 0), (16, .P b3 0), (19, .slice a6 (enc xs k n).length c7), (20, .I 0)] ?_
 refine qG (sq 0 17) ?_
 refine qP 4 (sq 4 17) [(0, .int .u64 client), (1, .int .u64 seq), (2, .string key), (3, .slice a xs.length c), (4, .I k), (5, .I n), (7, .I limit), (14, .P b1 0), (16, .P b3 0), (19, .slice a6 (enc xs k n).length c7), (33, .bool false), (34, .P b1 2)] ?_
 refine qL .seq 35 (sq 5 17) 25 b1 2 2 (.slice a2R R.nodes.length k2R) (H.cells 1 rfl) ?_
 refine qP 5 (sq 10 17) [(0, .int .u64 client), (1, .int .u64 seq), (2, .string key), (3, .slice a xs.length c), (4, .I k), (7, .I limit), (14, .P b1 0), (16, .P b3 0), (19, .slice a6 (enc xs k n).length c7), (40, .bool (((R.nodes.length : Nat) : Int) != (n : Int)))] ?_
 refine tN (fun b_ => [(0, .int .u64 client), (1, .int .u64 seq), (2, .string key), (3, .slice a xs.length c), (4, .I k), (7, .I limit), (14, .P b1 0), (16, .P b3 0), (19, .slice a6 (enc xs k n).length c7), (40, .bool b_)]) ((R.nodes.length : Nat) : Int) (n : Int) (fun h10 => ?_) (fun h10 => ?_)
 ·
  exact absurd h10 (by omega)
 ·
  refine qP 4 (sq 14 17) [(0, .int .u64 client), (1, .int .u64 seq), (2, .string key), (3, .slice a xs.length c), (4, .I k), (7, .I limit), (14, .P b1 0), (16, .P b3 0), (19, .slice a6 (enc xs k n).length c7), (44, .bool (decide ((limit : Int) < 1)))] ?_
  refine tD (fun b_ => [(0, .int .u64 client), (1, .int .u64 seq), (2, .string key), (3, .slice a xs.length c), (4, .I k), (7, .I limit), (14, .P b1 0), (16, .P b3 0), (19, .slice a6 (enc xs k n).length c7), (44, .bool b_)]) ((limit : Int) < 1) (fun h11 => ?_) (fun h11 => ?_)
  ·
   exact absurd h11 (by omega)
  ·
   refine qF 3 [(0, .int .u64 client), (1, .int .u64 seq), (2, .string key), (3, .slice a xs.length c), (4, .I k), (7, .I limit), (14, .P b1 0), (16, .P b3 0), (19, .slice a6 (enc xs k n).length c7), (47, .bool (decide ((limit : Int) > 100000)))] ?_
   refine qD ((limit : Int) > 100000) (fun h12 => ?_) (fun h12 => ?_)
   ·
    exact absurd h12 (by omega)
   ·
    refine qR 2 [.c [3, 0], .c [4]] [(0, .int .u64 client), (1, .int .u64 seq), (2, .string key), (3, .slice a xs.length c), (4, .I k), (7, .I limit), (14, .P b1 0), (16, .P b3 0), (19, .slice a6 (enc xs k n).length c7)] ?_
    refine qG (sq 0 15) ?_
    refine qP 2 (sq 2 15) [(0, .int .u64 client), (1, .int .u64 seq), (2, .string key), (3, .slice a xs.length c), (4, .I k), (7, .I limit), (14, .P b1 0), (16, .P b3 0), (19, .slice a6 (enc xs k n).length c7), (50, .slice a6 (enc xs k n).length c7), (51, .P b1 1)] ?_
    refine qL .seq 52 (sq 3 15) 22 b1 1 1 (.int .u64 R.version) (H.cells 1 rfl) ?_
    refine qP 1 (sq 4 15) [(0, .int .u64 client), (1, .int .u64 seq), (2, .string key), (3, .slice a xs.length c), (4, .I k), (7, .I limit), (14, .P b1 0), (16, .P b3 0), (19, .slice a6 (enc xs k n).length c7), (50, .slice a6 (enc xs k n).length c7), (52, .int .u64 R.version), (53, .P b1 3)] ?_
    refine qL .seq 54 (sq 5 15) 22 b1 3 3 (.int .u64 R.epoch) (H.cells 1 rfl) ?_
    refine qP 4 (sq 9 15) [(0, .int .u64 client), (1, .int .u64 seq), (2, .string key), (7, .I limit), (14, .P b1 0), (16, .P b3 0), (19, .slice a6 (enc xs k n).length c7), (50, .slice a6 (enc xs k n).length c7), (55, .agg #[.int .u64 R.version, .I 0, .int .u64 R.epoch]), (57, .I ((xs.length : Nat) : Int)), (58, .I k)] ?_
    refine qK .seq (some 59) (sq 10 15) 38 #[.slice a6 (enc xs k n).length c7, .agg #[.int .u64 R.version, .I 0, .int .u64 R.epoch], .I ((xs.length : Nat) : Int), .I k] (heads_ok (S := Av S w [] (idsOf [(b3, .cells (wrZ).toArray 32 (0, 0)), (b1, .cells (resV R a2R k2R).toArray 27 (0, 0))] [])) (cs := enc xs k n) (id := ⟨R.version, 0, R.epoch⟩) xs.length k (H.rp 0 rfl) (cid_mk u64a (Shape.int_mk (by decide)) u64a) (by omega) (by omega) (by omega) (by omega) (enc_all)) ?_
    rintro _ w13 hE16 ⟨a14, c15, rfl, hr17⟩
    have H := H.addN hE16 (F := Rp (Shape.slice hdrS) [.slice a14 ((headsOf (⟨R.version, 0, R.epoch⟩) xs.length k (enc xs k n)).length) c15] (headsOf (⟨R.version, 0, R.epoch⟩) xs.length k (enc xs k n))) hr17
    refine qF 5 [(0, .int .u64 client), (1, .int .u64 seq), (2, .string key), (7, .I limit), (14, .P b1 0), (16, .P b3 0), (19, .slice a6 (enc xs k n).length c7), (21, .slice a14 ((headsOf (⟨R.version, 0, R.epoch⟩) xs.length k (enc xs k n)).length) c15)] ?_
    refine qR 1 [.c [4, 0], .c [5]] [(0, .int .u64 client), (1, .int .u64 seq), (2, .string key), (7, .I limit), (14, .P b1 0), (16, .P b3 0), (19, .slice a6 (enc xs k n).length c7), (21, .slice a14 ((headsOf (⟨R.version, 0, R.epoch⟩) xs.length k (enc xs k n)).length) c15)] ?_
    refine qG (sq 0 12) ?_
    refine qP 6 (sq 6 12) [(7, .I limit), (16, .P b3 0), (62, .int .u64 client), (63, .int .u64 seq), (64, .string key), (65, .slice a14 ((headsOf (⟨R.version, 0, R.epoch⟩) xs.length k (enc xs k n)).length) c15), (66, .slice a6 (enc xs k n).length c7), (67, .P b1 2)] ?_
    refine qL .seq 68 (sq 7 12) 25 b1 2 2 (.slice a2R R.nodes.length k2R) (H.cells 1 rfl) ?_
    refine qK .seq (some 69) (sq 8 12) 56 #[.slice a2R R.nodes.length k2R] (clone_spec (H.rp 3 rfl) (by omega)) ?_
    rintro v19 w18 - H'
    have H := H.back (M1 := []) (W1 := []) H'
    obtain ⟨a20, c21, rfl, hc22, hm23⟩ := H.ownForm 0 rfl
    have H : Hp w S [] [(b3, .cells (wrZ).toArray 32 (0, 0)), (b1, .cells (resV R a2R k2R).toArray 27 (0, 0))] [⟨Shape.int .i64, 3, .slice a20 R.nodes.length c21, R.nodes⟩] [Rp (Shape.slice hdrS) [.slice a14 ((headsOf (⟨R.version, 0, R.epoch⟩) xs.length k (enc xs k n)).length) c15] (headsOf (⟨R.version, 0, R.epoch⟩) xs.length k (enc xs k n)), Rp (Shape.slice SB) [.slice a6 (enc xs k n).length c7] (enc xs k n), Rp SB [.slice a xs.length c] xs, Rp Li [.slice a2R R.nodes.length k2R] R.nodes] _ := H
    refine qP 2 (sq 10 12) [(16, .P b3 0), (71, .agg #[.int .u64 client, .int .u64 seq, .string key, .slice a14 ((headsOf (⟨R.version, 0, R.epoch⟩) xs.length k (enc xs k n)).length) c15, .slice a6 (enc xs k n).length c7, .slice a20 R.nodes.length c21, .slice none 0 0, .I 0, .I limit, .I 0])] ?_
    refine qB .seq 23 (sq 11 12) ((wrZ).toArray) 32 H ?_
    intro b24 w25 H
    refine qW 32 b24 0 (sq 12 12) (.agg #[.int .u64 client, .int .u64 seq, .string key, .slice a14 ((headsOf (⟨R.version, 0, R.epoch⟩) xs.length k (enc xs k n)).length) c15, .slice a6 (enc xs k n).length c7, .slice a20 R.nodes.length c21, .slice none 0 0, .I 0, .I limit, .I 0]) [(b24, .cells #[.int .u64 client, .int .u64 seq, .string key, .slice a14 ((headsOf (⟨R.version, 0, R.epoch⟩) xs.length k (enc xs k n)).length) c15, .slice a6 (enc xs k n).length c7, .slice a20 R.nodes.length c21, .slice none 0 0, .I 0, .I limit, .I 0] 32 (0, 0)), (b3, .cells (wrZ).toArray 32 (0, 0)), (b1, .cells (resV R a2R k2R).toArray 27 (0, 0))] H 0 rfl rfl ?_
    intro w26 H
    refine qF 0 [(16, .P b3 0), (23, .P b24 0)] ?_
    refine qR 1 [.c [5, 0], .c [6]] [(16, .P b3 0), (23, .P b24 0)] ?_
    refine WK.draw1 3 [(0, .qui), (1, .qui), (2, .chn)] [(0, .qui), (1, .qui), (2, .chn), (3, .seq), (4, .seq), (5, .seq)] Try_mixed (by as_aux_lemma => kernel_rfl) (by as_aux_lemma => kernel_rfl) (by as_aux_lemma => kernel_rfl) ?_
    have H := H.draw
    generalize ({ w26 with drawn := w26.drawn + 1 } : World) = w27 at H ⊢
    refine qL .qui 72 [(1, .qui), (2, .chn), (3, .seq), (4, .seq), (5, .seq)] 32 b24 0 0 (.agg #[.int .u64 client, .int .u64 seq, .string key, .slice a14 ((headsOf (⟨R.version, 0, R.epoch⟩) xs.length k (enc xs k n)).length) c15, .slice a6 (enc xs k n).length c7, .slice a20 R.nodes.length c21, .slice none 0 0, .I 0, .I limit, .I 0]) (H.cells 0 rfl) ?_
    refine qL .qui 73 [(2, .chn), (3, .seq), (4, .seq), (5, .seq)] 32 b24 0 0 (.agg #[.int .u64 client, .int .u64 seq, .string key, .slice a14 ((headsOf (⟨R.version, 0, R.epoch⟩) xs.length k (enc xs k n)).length) c15, .slice a6 (enc xs k n).length c7, .slice a20 R.nodes.length c21, .slice none 0 0, .I 0, .I limit, .I 0]) (H.cells 0 rfl) ?_
    have H : Hp w S [] [(b24, .cells #[.int .u64 client, .int .u64 seq, .string key, .slice a14 ((headsOf (⟨R.version, 0, R.epoch⟩) xs.length k (enc xs k n)).length) c15, .slice a6 (enc xs k n).length c7, .slice a20 R.nodes.length c21, .slice none 0 0, .I 0, .I limit, .I 0] 32 (0, 0)), (b3, .cells (wrZ).toArray 32 (0, 0)), (b1, .cells (resV R a2R k2R).toArray 27 (0, 0))] [] [Rp Li [.slice a20 R.nodes.length c21] R.nodes, Rp (Shape.slice hdrS) [.slice a14 ((headsOf (⟨R.version, 0, R.epoch⟩) xs.length k (enc xs k n)).length) c15] (headsOf (⟨R.version, 0, R.epoch⟩) xs.length k (enc xs k n)), Rp (Shape.slice SB) [.slice a6 (enc xs k n).length c7] (enc xs k n), Rp SB [.slice a xs.length c] xs, Rp Li [.slice a2R R.nodes.length k2R] R.nodes] _ := H.freezeW 0 rfl
    refine qK .chn (some 74) [(3, .seq), (4, .seq), (5, .seq)] 57 #[.agg #[.int .u64 client, .int .u64 seq, .string key, .slice a14 ((headsOf (⟨R.version, 0, R.epoch⟩) xs.length k (enc xs k n)).length) c15, .slice a6 (enc xs k n).length c7, .slice a20 R.nodes.length c21, .slice none 0 0, .I 0, .I limit, .I 0]] (prepares_spec (S := Av S w [] (idsOf [(b24, .cells #[.int .u64 client, .int .u64 seq, .string key, .slice a14 ((headsOf (⟨R.version, 0, R.epoch⟩) xs.length k (enc xs k n)).length) c15, .slice a6 (enc xs k n).length c7, .slice a20 R.nodes.length c21, .slice none 0 0, .I 0, .I limit, .I 0] 32 (0, 0)), (b3, .cells (wrZ).toArray 32 (0, 0)), (b1, .cells (resV R a2R k2R).toArray 27 (0, 0))] [])) (W := ⟨client, seq, key, headsOf (⟨R.version, 0, R.epoch⟩) xs.length k (enc xs k n), enc xs k n, R.nodes, [], 0, limit, 0⟩) (wr_mk (l0 := [.int .u64 client]) (y0 := client) (l1 := [.int .u64 seq]) (y1 := seq) (l2 := [.string key]) (y2 := key) (l3 := [.slice a14 ((headsOf (⟨R.version, 0, R.epoch⟩) xs.length k (enc xs k n)).length) c15]) (y3 := headsOf (⟨R.version, 0, R.epoch⟩) xs.length k (enc xs k n)) (l4 := [.slice a6 (enc xs k n).length c7]) (y4 := enc xs k n) (l5 := [.slice a20 R.nodes.length c21]) (y5 := R.nodes) (l6 := [.slice none 0 0]) (y6 := []) (l7 := [.I 0]) (y7 := 0) (l8 := [.I limit]) (y8 := limit) (l9 := [.I 0]) (y9 := 0) u64a u64a ⟨rfl, hkey⟩ (H.rp 1 rfl) (H.rp 2 rfl) (H.rp 0 rfl) Shape.slice_nil (Shape.int_mk (by decide)) i64a (Shape.int_mk (by decide))) (by first | assumption | omega | (dsimp only; omega)) (by first | assumption | omega | (dsimp only; omega)) (by first | assumption | exact hcb9)) ?_
    rintro _ w28 hE31 ⟨a29, c30, rfl, hr32⟩
    have H := H.addN hE31 (F := Rp (Shape.slice msgS) [.slice a29 ((msgsOf (⟨client, seq, key, headsOf (⟨R.version, 0, R.epoch⟩) xs.length k (enc xs k n), enc xs k n, R.nodes, [], 0, limit, 0⟩)).length) c30] (msgsOf (⟨client, seq, key, headsOf (⟨R.version, 0, R.epoch⟩) xs.length k (enc xs k n), enc xs k n, R.nodes, [], 0, limit, 0⟩))) hr32
    refine qW 32 b3 0 [(4, .seq), (5, .seq)] (.agg #[.int .u64 client, .int .u64 seq, .string key, .slice a14 ((headsOf (⟨R.version, 0, R.epoch⟩) xs.length k (enc xs k n)).length) c15, .slice a6 (enc xs k n).length c7, .slice a20 R.nodes.length c21, .slice none 0 0, .I 0, .I limit, .I 0]) [(b24, .cells #[.int .u64 client, .int .u64 seq, .string key, .slice a14 ((headsOf (⟨R.version, 0, R.epoch⟩) xs.length k (enc xs k n)).length) c15, .slice a6 (enc xs k n).length c7, .slice a20 R.nodes.length c21, .slice none 0 0, .I 0, .I limit, .I 0] 32 (0, 0)), (b3, .cells #[.int .u64 client, .int .u64 seq, .string key, .slice a14 ((headsOf (⟨R.version, 0, R.epoch⟩) xs.length k (enc xs k n)).length) c15, .slice a6 (enc xs k n).length c7, .slice a20 R.nodes.length c21, .slice none 0 0, .I 0, .I limit, .I 0] 32 (0, 0)), (b1, .cells (resV R a2R k2R).toArray 27 (0, 0))] H 1 rfl rfl ?_
    intro w33 H
    refine qF 2 [(16, .P b3 0), (17, .slice a29 ((msgsOf (⟨client, seq, key, headsOf (⟨R.version, 0, R.epoch⟩) xs.length k (enc xs k n), enc xs k n, R.nodes, [], 0, limit, 0⟩)).length) c30), (18, .I 0)] ?_
    refine qRB (.tuple #[.agg #[.int .u64 client, .int .u64 seq, .string key, .slice a14 ((headsOf (⟨R.version, 0, R.epoch⟩) xs.length k (enc xs k n)).length) c15, .slice a6 (enc xs k n).length c7, .slice a20 R.nodes.length c21, .slice none 0 0, .I 0, .I limit, .I 0], .slice a29 ((msgsOf (⟨client, seq, key, headsOf (⟨R.version, 0, R.epoch⟩) xs.length k (enc xs k n), enc xs k n, R.nodes, [], 0, limit, 0⟩)).length) c30, .I 0]) Try.func18 (v3 (.cell 16 32) (.tmp 17) (.tmp 18) (vC (H.cells 1 rfl)) vT vT) ?_
    exact ⟨_, rfl, H.done, [.int .u64 client, .int .u64 seq, .string key, .slice a14 ((headsOf (⟨R.version, 0, R.epoch⟩) xs.length k (enc xs k n)).length) c15, .slice a6 (enc xs k n).length c7, .slice a20 R.nodes.length c21, .slice none 0 0, .I 0, .I limit, .I 0], _, _, rfl, H.out (wr_mk (l0 := [.int .u64 client]) (y0 := client) (l1 := [.int .u64 seq]) (y1 := seq) (l2 := [.string key]) (y2 := key) (l3 := [.slice a14 ((headsOf (⟨R.version, 0, R.epoch⟩) xs.length k (enc xs k n)).length) c15]) (y3 := headsOf (⟨R.version, 0, R.epoch⟩) xs.length k (enc xs k n)) (l4 := [.slice a6 (enc xs k n).length c7]) (y4 := enc xs k n) (l5 := [.slice a20 R.nodes.length c21]) (y5 := R.nodes) (l6 := [.slice none 0 0]) (y6 := []) (l7 := [.I 0]) (y7 := 0) (l8 := [.I limit]) (y8 := limit) (l9 := [.I 0]) (y9 := 0) u64a u64a ⟨rfl, hkey⟩ (H.rp 2 rfl) (H.rp 3 rfl) (H.rp 1 rfl) Shape.slice_nil (Shape.int_mk (by decide)) i64a (Shape.int_mk (by decide))), H.out (H.rp 0 rfl)⟩
end Go.Proofs.Ytppcdmbkgficiaa
