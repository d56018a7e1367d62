import Derived.Test.YtppcdmbkgficiaaSBxA
import Derived.Test.YtppcdmbkgficiaaSH2
import Derived.Test.YtppcdmbkgficiaaSA5
namespace Go.Proofs.Ytppcdmbkgficiaa
open Go.BX
theorem begin_bad1 {S : Nat → Prop} {w : World} {xs : List (BitVec 8)} {a : Option Addr} {c : Nat} (client seq : Int) (key : ByteArray) (h : SB.rep S w [.slice a xs.length c] xs) {R : Res} {rs : List Value} (hR : resS.rep S w rs R) (limit : Int) (k n : Int) (hb : ¬ (xs.length ≤ 65536 ∧ 1 ≤ k ∧ k ≤ n ∧ n ≤ 255)) :
 Calls Try.prog 18 #[.int .u64 client, .int .u64 seq, .string key, .slice a xs.length c, .I k, .I n, .agg rs.toArray, .I limit] w (Ret fun v w' => Ext w w' ∧ v = .tuple #[.agg (wrZ).toArray, .slice none 0 0, .I 2]) := by
 obtain ⟨b, d, rfl, _, _, e, _⟩ := res_open hR
 refine uS1 Try.func18 ?_
 have H := Hp.startF (.rp h (.rp e .nil))
 refine uR 1 [.c [0], .c [1]] ?_
 refine qG (sq 0 4) ?_
 refine uC ((resV R b d).toArray) 27 H ?_
 intro _ _ H
 refine uC ((wrZ).toArray) 32 H ?_
 intro _ _ H
 refine uF 2 ?_
 refine uR 1 [.c [1, 0], .c [2]] ?_
 refine qG (sq 0 9) ?_
 refine uP 3 ?_
 refine uK (encode_bad (xs := xs) k n (H.rp 0 rfl) (by first | assumption | omega)) ?_
 rintro _ _ f rfl
 have H := H.ext f
 refine uF 5 ?_
 refine uR 5 [.c [2, 0, 1, 0, 0], .c [2, 0, 1, 0, 1], .c [3]] ?_
 refine qG (sq 0 4) ?_
 refine uP 1 ?_
 refine uW 32 0 (wrZ).toArray H 0 rfl ?_
 intro _ H
 refine uF 2 ?_
 refine qRB (.tuple #[.agg (wrZ).toArray, .slice none 0 0, .I 2]) Try.func18 (v3 (.cell 16 32) (.tmp 17) (.tmp 18) (vC (H.cells 0 rfl)) vT vT) ?_
 exact ⟨_, rfl, H.done, rfl⟩
theorem begin_bad2 {S : Nat → Prop} {w : World} {xs : List (BitVec 8)} {a : Option Addr} {c : Nat} (client seq : Int) (key : ByteArray) (h : SB.rep S w [.slice a xs.length c] xs) {R : Res} {rs : List Value} (hR : resS.rep S w rs R) (limit : Int) (k n : Nat) (hs : xs.length ≤ 65536) (hk : 1 ≤ k) (hkn : k ≤ n) (hn : n ≤ 255) (hb : ¬ (R.nodes.length = n ∧ 1 ≤ limit ∧ limit ≤ 100000)) :
 Calls Try.prog 18 #[.int .u64 client, .int .u64 seq, .string key, .slice a xs.length c, .I k, .I n, .agg rs.toArray, .I limit] w (Ret fun v w' => Ext w w' ∧ v = .tuple #[.agg (wrZ).toArray, .slice none 0 0, .I 2]) := by
 obtain ⟨b, d, rfl, _, _, e, _⟩ := res_open hR
 refine uS1 Try.func18 ?_
 have H := Hp.startF (.rp h (.rp e .nil))
 refine uR 1 [.c [0], .c [1]] ?_
 refine qG (sq 0 4) ?_
 refine uC ((resV R b d).toArray) 27 H ?_
 intro _ _ H
 refine uC ((wrZ).toArray) 32 H ?_
 intro m _ H
 refine uF 2 ?_
 refine uR 1 [.c [1, 0], .c [2]] ?_
 refine qG (sq 0 9) ?_
 refine uP 3 ?_
 refine uK (encode_ok (xs := xs) k n (H.rp 0 rfl) (by omega) (by omega) (by omega) (by omega)) ?_
 rintro _ _ f ⟨_, _, rfl, g⟩
 have H := H.addM f g
 refine uF 5 ?_
 refine uR 2 [.c [2, 0, 0], .c [2, 0, 1], .c [3]] ?_
 refine qG (sq 0 17) ?_
 refine uP 4 ?_
 refine uV 25 2 (H.cells 1 rfl) ?_
 refine uP 5 ?_
 refine uN 40 ((R.nodes.length : Nat) : Int) (n : Int) (fun i => ?_) (fun i => ?_)
 ·
  refine uF 7 ?_
  refine uR 2 [.c [2, 0, 1, 0, 0], .c [2, 0, 1, 0, 1], .c [3]] ?_
  refine qG (sq 0 4) ?_
  refine qP 1 (sq 1 4) [(16, .P m 0), (48, .agg (wrZ).toArray)] ?_
  refine uW 32 0 (wrZ).toArray H 0 rfl ?_
  intro _ H
  refine uF 2 ?_
  refine qRB (.tuple #[.agg (wrZ).toArray, .slice none 0 0, .I 2]) Try.func18 (v3 (.cell 16 32) (.tmp 17) (.tmp 18) (vC (H.cells 0 rfl)) vT vT) ?_
  exact ⟨_, rfl, H.done, rfl⟩
 ·
  refine uP 4 ?_
  refine uD 44 ((limit : Int) < 1) (fun j => ?_) (fun j => ?_)
  ·
   refine uF 3 ?_
   refine uR 2 [.c [2, 0, 1, 0, 0], .c [2, 0, 1, 0, 1], .c [3]] ?_
   refine qG (sq 0 4) ?_
   refine uP 1 ?_
   refine uW 32 0 (wrZ).toArray H 0 rfl ?_
   intro _ H
   refine uF 2 ?_
   refine qRB (.tuple #[.agg (wrZ).toArray, .slice none 0 0, .I 2]) Try.func18 (v3 (.cell 16 32) (.tmp 17) (.tmp 18) (vC (H.cells 0 rfl)) vT vT) ?_
   exact ⟨_, rfl, H.done, rfl⟩
  ·
   refine uF 3 ?_
   refine qD ((limit : Int) > 100000) (fun l => ?_) (fun l => ?_)
   ·
    refine uR 1 [.c [2, 0, 1, 0, 0], .c [2, 0, 1, 0, 1], .c [3]] ?_
    refine qG (sq 0 4) ?_
    refine uP 1 ?_
    refine uW 32 0 (wrZ).toArray H 0 rfl ?_
    intro _ H
    refine uF 2 ?_
    refine qRB (.tuple #[.agg (wrZ).toArray, .slice none 0 0, .I 2]) Try.func18 (v3 (.cell 16 32) (.tmp 17) (.tmp 18) (vC (H.cells 0 rfl)) vT vT) ?_
    exact ⟨_, rfl, H.done, rfl⟩
   ·
    exact absurd (by omega) hb
theorem prep_okB {client seq limit : Int} {key : ByteArray} {xs : List (BitVec 8)} {k n : Nat} {R : Res} (hs : xs.length ≤ 65536) (hk : 1 ≤ k) (hkn : k ≤ n) (hn : n ≤ 255) (hnn : R.nodes.length = n) (h1 : (0 ≤ R.version ∧ R.version ≤ 18446744073709551615)) (h2 : (0 ≤ R.epoch ∧ R.epoch ≤ 18446744073709551615)) (h3 : ∀ x ∈ R.nodes, -9223372036854775808 ≤ x ∧ x ≤ 9223372036854775807) :
 ∀ m ∈ msgsOf (beginW client seq key xs k n R limit), MsgOk m := by
 intro m hm
 have henc := enc_len (xs := xs) hkn
 have hhl : (beginW client seq key xs k n R limit).heads.length = n := by
  show (headsOf _ _ _ (enc xs k n)).length = n
  rw [headsOf_len, henc]
 unfold msgsOf msgsTo at hm
 obtain ⟨i, hi, he⟩ := List.mem_filterMap.1 hm
 have a := List.mem_range.1 hi
 rw [hhl] at a
 rw [if_neg (by show ¬ (i : Int) ∈ ([] : List Int); simp)] at he
 obtain rfl := Option.some.inj he
 have hto := h3 (R.nodes.getD i 0) (by rw [getD_at 0 (by omega)]; exact List.getElem_mem _)
 have hd : (headsOf ⟨R.version, 0, R.epoch⟩ xs.length k (enc xs k n)).getD i ⟨⟨0, 0, 0⟩, 0, 0, 0, 0#32⟩ = ⟨⟨R.version, (i : Int), R.epoch⟩, (k : Int), ((enc xs k n).length : Int), (xs.length : Int), crcF ((enc xs k n)[i]'(by omega))⟩ := by
  rw [List.getD_eq_getElem?_getD, headsOf_get (by omega)]; rfl
 have hdt : ((enc xs k n).getD i []).length ≤ 1000000 := by
  rw [getD_at [] (by omega), enc_allE _ (List.getElem_mem _)]
  have := lenOf_le (size := xs.length) (k := k) (by omega)
  omega
 refine ⟨rfl, rfl, ?_, ?_, ?_, hdt, ?_⟩
 · refine ⟨?_, ?_, hto, ?_, ?_, ?_, ?_, ?_, ?_, ?_, ?_, ?_⟩ <;> (dsimp only [prepOf]; omega)
 · show HdrOk ((headsOf ⟨R.version, 0, R.epoch⟩ xs.length k (enc xs k n)).getD i ⟨⟨0, 0, 0⟩, 0, 0, 0, 0#32⟩)
   rw [hd]
   refine ⟨⟨h1, ?_, h2⟩, ?_, ?_, ?_⟩ <;> (dsimp only []; omega)
 · exact Nat.zero_le _
 · exact Nat.zero_le _
theorem rows_eq {S : Nat → Prop} {w : World} {ms : List Msg} {a b : Option Addr} {c d : Nat} (hok : ∀ m ∈ ms, MsgOk m) (h : (Shape.slice msgS).rep S w [.slice a ms.length c] ms) (h2 : (Shape.slice msgS).rep S w [.slice b ms.length d] ms) :
 Calls Try.prog 21 #[.slice a ms.length c, .slice b ms.length d] w (Ret fun v w' => Ext w w' ∧ v = .bool true) := by
 have hxl := Shape.slice_len h
 refine uS1 Try.func21 ?_
 have H := Hp.startF (.rp h (.rp h2 .nil))
 refine uR 5 [.c [1, 0, 1], .c [2]] ?_
 refine qN ((ms.length : Nat) : Int) ((ms.length : Nat) : Int) (fun h1 => ?_) (fun h1 => ?_)
 ·
  exact absurd rfl h1
 ·
  refine uR 5 [.c [2, 0, 1, 0], .b 0, .c [3]] ?_
  refine uL (α := Nat) (g := 21) (p := [2, 0, 1, 0, 0]) (fun i => [(0, .slice a ms.length c), (1, .slice b ms.length d), (5, .I i)]) (fun i w' => Hp w S [] [] [] [Rp (Shape.slice msgS) [.slice a ms.length c] ms, Rp (Shape.slice msgS) [.slice b ms.length d] ms] w' ∧ i ≤ ms.length) (fun i => ms.length - i) 0 ⟨H, Nat.zero_le _⟩ ?_
  rintro i w3 ⟨H, _⟩ e
  refine uR 3 [.c [2, 0, 1, 0, 0, 0, 1], .c [2, 0, 1, 0, 0, 1], .l [2, 0, 1, 0, 0], .b 0, .c [3]] ?_
  refine qD (((i : Int) : Int) < ((ms.length : Nat) : Int)) (fun h4 => ?_) (fun h4 => ?_)
  ·
   obtain ⟨A, f⟩ : ∃ m, ms[i]? = some m := ⟨ms[i], List.getElem?_eq_getElem (by omega)⟩
   refine uR 4 [.c [2, 0, 1, 0, 0, 1, 0, 0, 0], .c [2, 0, 1, 0, 0, 1, 0, 0, 1], .b 1, .c [2, 0, 1, 0, 0, 2], .l [2, 0, 1, 0, 0], .b 0, .c [3]] ?_
   refine WK.draw1 10 [(0, .qui), (1, .qui), (2, .qui), (3, .qui), (4, .qui), (5, .qui), (6, .qui), (7, .qui), (8, .chn), (9, .qui)] [(0, .qui), (1, .qui), (2, .qui), (3, .qui), (4, .qui), (5, .qui), (6, .qui), (7, .qui), (8, .chn), (9, .qui)] Try_mixed (by as_aux_lemma => kernel_rfl) (by as_aux_lemma => kernel_rfl) (by as_aux_lemma => kernel_rfl) ?_
   have H := H.draw
   generalize ({ w3 with drawn := w3.drawn + 1 } : World) = w5 at H ⊢
   refine uP 2 ?_
   have g0 : i < ms.length := by omega
   refine uX 33 (i : Int) H 0 rfl i (by omega) (f) ?_
   intro _ _ _ L H
   obtain ⟨j, k, _, _, n, o, q, r, rfl, _, _, _, _, _, _, _, _, M, N, O, P, _, _, _, _, _, Q⟩ := msg_open L
   obtain ⟨B, C, D, E, rfl, R, T⟩ := conf_open N
   obtain ⟨_, rfl, U, _, _, _⟩ := hdr_open O
   obtain ⟨rfl, _, _, _⟩ := cid_open U
   have H := H.addR M
   have H := H.addR R
   have H := H.addR T
   have H := H.addR P
   have H := H.addR Q
   refine uV 57 0 (H.fc 5 rfl) ?_
   refine uP 2 ?_
   have f0 : i < ms.length := by omega
   refine uX 33 (i : Int) H 7 rfl i (by omega) (f) ?_
   intro _ _ _ V H
   obtain ⟨s, t, _, _, u, x, y, z, rfl, _, _, _, _, _, _, _, _, W, X, Y, Z, _, _, _, _, _, a0⟩ := msg_open V
   obtain ⟨F, G, J, K, rfl, b0, c0⟩ := conf_open X
   obtain ⟨_, rfl, d0, _, _, _⟩ := hdr_open Y
   obtain ⟨rfl, _, _, _⟩ := cid_open d0
   have H := H.addR W
   have H := H.addR b0
   have H := H.addR c0
   have H := H.addR Z
   have H := H.addR a0
   refine uV 57 0 (H.fc 5 rfl) ?_
   refine qK .chn (some 25) [(9, .qui)] 26 #[.agg (msgV A j k B C D E n o q r).toArray, .agg (msgV A s t F G J K u x y z).toArray] (same_spec (S := Av S w [] (idsOf [] [])) (m := A) (hok A (List.mem_of_getElem? f)) (H.rp 9 rfl) (H.rp 8 rfl) (H.rp 7 rfl) (H.rp 3 rfl) (H.rp 2 rfl) (H.rp 1 rfl)) ?_
   rintro _ _ e0 rfl
   have H := H.ext e0
   refine uF 1 ?_
   refine uR 3 [.c [2, 0, 1, 0, 0, 2], .l [2, 0, 1, 0, 0], .b 0, .c [3]] ?_
   refine qG (sq 0 3) ?_
   refine uP 1 ?_
   refine uI ((i : Int) + 1) ?_
   refine uF 1 ?_
   have H := H.pick [12, 13] rfl
   exact uB (e (i + 1) _ ⟨H, by omega⟩ (by first | omega | (simp only []; omega)))
  ·
   refine uR 3 [.c [4]] ?_
   refine qT (.bool true) Try.func21 ?_
   exact ⟨_, rfl, H.done, rfl⟩
end Go.Proofs.Ytppcdmbkgficiaa
