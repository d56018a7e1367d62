import Derived.Test.YtppcdmbkgficiaaGreatSBxB
import Derived.Test.YtppcdmbkgficiaaGreatSW4
namespace Go.Proofs.YtppcdmbkgficiaaGreat
open Go.BX
theorem gotOf_keep {W D : Wr} {e kind frm : Int} {hd : Hdr} {ok : Bool} (h : (D, e) = gotOf W kind frm hd ok) : D.heads = W.heads ∧ D.nodes = W.nodes ∧ D.chunks = W.chunks := by
 unfold gotOf at h
 split at h
 · obtain ⟨rfl, -⟩ := Prod.mk.inj h; exact ⟨rfl, rfl, rfl⟩
 · split at h
   · obtain ⟨rfl, -⟩ := Prod.mk.inj h; exact ⟨rfl, rfl, rfl⟩
   · split at h
     · obtain ⟨rfl, -⟩ := Prod.mk.inj h; exact ⟨rfl, rfl, rfl⟩
     · split at h <;> (obtain ⟨rfl, -⟩ := Prod.mk.inj h; exact ⟨rfl, rfl, rfl⟩)
theorem enc_all {xs : List (BitVec 8)} {k n : Nat} : ∀ d ∈ enc xs k n, d.length = lenOf xs.length k := by
 intro d hd
 unfold enc at hd
 rcases List.mem_append.1 hd with h | h
 · exact dataOf_all _ _ _ d h
 · obtain ⟨j, _, rfl⟩ := List.mem_map.1 h
   exact mixAll_len List.length_replicate (dataOf_all _ _ _)
def beginW (client seq : Int) (key : ByteArray) (xs : List (BitVec 8)) (k n : Nat) (R : Res) (limit : Int) : Wr :=
 ⟨client, seq, key, headsOf ⟨R.version, 0, R.epoch⟩ xs.length k (enc xs k n), enc xs k n, R.nodes, [], 0, limit, 0⟩
set_option maxHeartbeats 2000000 in
theorem begin_ok {S : Nat → Prop} {w : World} {xs : List (BitVec 8)} {a : Option Addr} {c : Nat} (client seq : Int) (key : ByteArray) (h : SB.rep S w [.slice a xs.length c] xs) {R : Res} {rs : List Value} (hR : resS.rep S w rs R) (limit : Int) (hkey : key.size ≤ maxLen) (hc1 : 0 ≤ client ∧ client ≤ 18446744073709551615) (hc2 : 0 ≤ seq ∧ seq ≤ 18446744073709551615) (k n : Nat) (hs : xs.length ≤ 65536) (hk : 1 ≤ k) (hkn : k ≤ n) (hn : n ≤ 255) (hnn : R.nodes.length = n) (hlim : 1 ≤ limit ∧ limit ≤ 100000) :
 Calls Tryz.prog 69 #[.int .u64 client, .int .u64 seq, .string key, .slice a xs.length c, .I k, .I n, .agg rs.toArray, .I limit] w (Ret fun v w' => Ext w w' ∧ ∃ (ds : List Value) (a : Option Addr) (c : Nat), v = .tuple #[.agg ds.toArray, .slice a (msgsOf (beginW client seq key xs k n R limit)).length c, .I 0] ∧ wrS.rep (Nw S w) w' ds (beginW client seq key xs k n R limit) ∧ (Shape.slice msgS).rep (Nw S w) w' [.slice a (msgsOf (beginW client seq key xs k n R limit)).length c] (msgsOf (beginW client seq key xs k n R limit))) := by
 obtain ⟨u, x, rfl, _, _, y, _⟩ := res_open hR
 have henc := enc_len (xs := xs) hkn
 have hhl : (headsOf ⟨R.version, 0, R.epoch⟩ xs.length k (enc xs k n)).length = (enc xs k n).length := headsOf_len
 have p : ∀ c ∈ enc xs k n, c.length ≤ 1000000 := fun c hc => by have h1 := enc_all c hc; have h2 := lenOf_le (size := xs.length) (k := k) (by omega); omega
 have hRn : 0 ≤ (0 : Int) := by decide
 refine uS1 Tryz.func69 ?_
 have H := Hp.startF (.rp h (.rp y .nil))
 refine uR 1 [.c [0], .c [1]] ?_
 refine qG (sq 0 4) ?_
 refine uC ((resV R u x).toArray) 152 H ?_
 intro D _ H
 refine uC ((wrZ).toArray) 44 H ?_
 intro E _ H
 refine uF 2 ?_
 refine uR 1 [.c [1, 0], .c [2]] ?_
 refine qG (sq 0 9) ?_
 refine uP 3 ?_
 refine uK (encode_ok (xs := xs) k n (H.rp 0 rfl) (by omega) (by omega) (by omega) (by omega)) ?_
 rintro _ _ z ⟨g, i, rfl, A⟩
 have H := H.addM z A
 refine uF 5 ?_
 refine uR 2 [.c [2, 0, 0], .c [2, 0, 1], .c [3]] ?_
 refine qG (sq 0 17) ?_
 refine uP 4 ?_
 refine uV 24 2 (H.cells 1 rfl) ?_
 refine uP 5 ?_
 refine uN 40 ((R.nodes.length : Nat) : Int) (n : Int) (fun j => ?_) (fun j => ?_)
 ·
  exact absurd j (by omega)
 ·
  refine uP 4 ?_
  refine uD 44 ((limit : Int) < 1) (fun l => ?_) (fun l => ?_)
  ·
   exact absurd l (by omega)
  ·
   refine uF 3 ?_
   refine qD ((limit : Int) > 100000) (fun m => ?_) (fun m => ?_)
   ·
    exact absurd m (by omega)
   ·
    refine qR 2 [.c [3, 0], .c [4]] [(0, .int .u64 client), (1, .int .u64 seq), (2, .string key), (3, .slice a xs.length c), (4, .I k), (7, .I limit), (14, .P D 0), (16, .P E 0), (19, .slice g (enc xs k n).length i)] ?_
    refine qG (sq 0 15) ?_
    refine uP 2 ?_
    refine uV 22 1 (H.cells 1 rfl) ?_
    refine uP 1 ?_
    refine uV 22 3 (H.cells 1 rfl) ?_
    refine uP 4 ?_
    refine uK (heads_ok (cs := enc xs k n) (id := ⟨R.version, 0, R.epoch⟩) xs.length k (H.rp 0 rfl) (cid_mk u64a (Shape.int_mk (by decide)) u64a) (by omega) (by omega) (by omega) (by omega) (enc_all)) ?_
    rintro _ _ q ⟨e, f, rfl, r⟩
    have H := H.addM q r
    refine uF 5 ?_
    refine uR 1 [.c [4, 0], .c [5]] ?_
    refine qG (sq 0 12) ?_
    refine uP 6 ?_
    refine uV 24 2 (H.cells 1 rfl) ?_
    refine uK (clone_spec (H.rp 3 rfl) (by omega)) ?_
    rintro _ _ - H'
    have H := H.back (M1 := []) (W1 := []) H'
    obtain ⟨b, d, rfl, _, _⟩ := H.ownForm 0 rfl
    have H : Hp w S [] [_, _] [⟨Shape.int .i64, 3, .slice b R.nodes.length d, R.nodes⟩] [_, _, _, _] _ := H
    refine uP 2 ?_
    refine uC ((wrZ).toArray) 44 H ?_
    intro _ _ H
    refine uW 44 0 #[.int .u64 client, .int .u64 seq, .string key, .slice e ((headsOf (⟨R.version, 0, R.epoch⟩) xs.length k (enc xs k n)).length) f, .slice g (enc xs k n).length i, .slice b R.nodes.length d, .slice none 0 0, .I 0, .I limit, .I 0] H 0 rfl ?_
    intro o H
    refine uF 0 ?_
    refine uR 1 [.c [5, 0], .c [6]] ?_
    refine WK.draw1 3 [(0, .qui), (1, .qui), (2, .chn)] [(0, .qui), (1, .qui), (2, .chn), (3, .seq), (4, .seq), (5, .seq)] Try_mixed (by as_aux_lemma => kernel_rfl) (by as_aux_lemma => kernel_rfl) (by as_aux_lemma => kernel_rfl) ?_
    have H := H.draw
    generalize ({ o with drawn := o.drawn + 1 } : World) = F at H ⊢
    refine uV 44 0 (H.cells 0 rfl) ?_
    refine uV 44 0 (H.cells 0 rfl) ?_
    have H : Hp w S [] [_, _, _] [] [Rp (Shape.slice (Shape.int .i64)) [.slice b R.nodes.length d] R.nodes, _, _, _, _] _ := H.freezeW 0 rfl
    refine uK (prepares_spec (W := ⟨client, seq, key, headsOf (⟨R.version, 0, R.epoch⟩) xs.length k (enc xs k n), enc xs k n, R.nodes, [], 0, limit, 0⟩) (wr_mk (l0 := [.int .u64 client]) (y0 := client) (l1 := [.int .u64 seq]) (y1 := seq) (l2 := [.string key]) (y2 := key) (l3 := [.slice e ((headsOf (⟨R.version, 0, R.epoch⟩) xs.length k (enc xs k n)).length) f]) (y3 := headsOf (⟨R.version, 0, R.epoch⟩) xs.length k (enc xs k n)) (l4 := [.slice g (enc xs k n).length i]) (y4 := enc xs k n) (l5 := [.slice b R.nodes.length d]) (y5 := R.nodes) (l6 := [.slice none 0 0]) (y6 := []) (l7 := [.I 0]) (y7 := 0) (l8 := [.I limit]) (y8 := limit) (l9 := [.I 0]) (y9 := 0) u64a u64a ⟨rfl, hkey⟩ (H.rp 1 rfl) (H.rp 2 rfl) (H.rp 0 rfl) Shape.slice_nil (Shape.int_mk (by decide)) i64a (Shape.int_mk (by decide))) (by first | assumption | omega | (dsimp only; omega)) (by first | assumption | omega | (dsimp only; omega)) (by first | assumption | exact p)) ?_
    rintro _ _ s ⟨B, C, rfl, t⟩
    have H := H.addM s t
    refine uW 44 0 #[.int .u64 client, .int .u64 seq, .string key, .slice e ((headsOf (⟨R.version, 0, R.epoch⟩) xs.length k (enc xs k n)).length) f, .slice g (enc xs k n).length i, .slice b R.nodes.length d, .slice none 0 0, .I 0, .I limit, .I 0] H 1 rfl ?_
    intro _ H
    refine uF 2 ?_
    refine qRB (.tuple #[.agg #[.int .u64 client, .int .u64 seq, .string key, .slice e ((headsOf (⟨R.version, 0, R.epoch⟩) xs.length k (enc xs k n)).length) f, .slice g (enc xs k n).length i, .slice b R.nodes.length d, .slice none 0 0, .I 0, .I limit, .I 0], .slice B ((msgsOf (⟨client, seq, key, headsOf (⟨R.version, 0, R.epoch⟩) xs.length k (enc xs k n), enc xs k n, R.nodes, [], 0, limit, 0⟩)).length) C, .I 0]) Tryz.func69 (v3 (.cell 16 44) (.tmp 17) (.tmp 18) (vC (H.cells 1 rfl)) vT vT) ?_
    exact ⟨_, rfl, H.done, [.int .u64 client, .int .u64 seq, .string key, .slice e ((headsOf (⟨R.version, 0, R.epoch⟩) xs.length k (enc xs k n)).length) f, .slice g (enc xs k n).length i, .slice b R.nodes.length d, .slice none 0 0, .I 0, .I limit, .I 0], _, _, rfl, H.out (wr_mk (l0 := [.int .u64 client]) (y0 := client) (l1 := [.int .u64 seq]) (y1 := seq) (l2 := [.string key]) (y2 := key) (l3 := [.slice e ((headsOf (⟨R.version, 0, R.epoch⟩) xs.length k (enc xs k n)).length) f]) (y3 := headsOf (⟨R.version, 0, R.epoch⟩) xs.length k (enc xs k n)) (l4 := [.slice g (enc xs k n).length i]) (y4 := enc xs k n) (l5 := [.slice b R.nodes.length d]) (y5 := R.nodes) (l6 := [.slice none 0 0]) (y6 := []) (l7 := [.I 0]) (y7 := 0) (l8 := [.I limit]) (y8 := limit) (l9 := [.I 0]) (y9 := 0) u64a u64a ⟨rfl, hkey⟩ (H.rp 2 rfl) (H.rp 3 rfl) (H.rp 1 rfl) Shape.slice_nil (Shape.int_mk (by decide)) i64a (Shape.int_mk (by decide))), H.out (H.rp 0 rfl)⟩
end Go.Proofs.YtppcdmbkgficiaaGreat
