import Derived.Test.YtppcdmbkgficiaaE5
namespace Go.Proofs.Ytppcdmbkgficiaa
open Go.BX

theorem encode_bad {S : Nat → Prop} {w : World} {xs : List (BitVec 8)} {a : Option Addr} {c : Nat} (k n : Int) (h : SB.rep S w [.slice a xs.length c] xs) (hb : ¬ (xs.length ≤ 65536 ∧ 1 ≤ k ∧ k ≤ n ∧ n ≤ 255)) :
 Calls Try.prog 29 #[.slice a xs.length c, .I k, .I n] w (Ret fun v w' => Ext w w' ∧ v = .tuple #[.slice none 0 0, .I 2]) := by
 refine qS (fn := Try.f29) (n := 77) (σ := [(0, .slice a xs.length c), (1, .I k), (2, .I n)]) Try.func29 ?_
 have H := Hp.startF (w := w) (S := S) (G := [Rp SB [.slice a xs.length c] xs]) (.rp h .nil)
 refine qR 3 [.c [1, 0], .c [2]] [(0, .slice a xs.length c), (1, .I k), (2, .I n)] ?_
 refine qG (sq 0 10) ?_
 refine qP 4 (sq 4 10) [(0, .slice a xs.length c), (1, .I k), (2, .I n), (20, .I ((xs.length : Nat) : Int)), (21, .I k), (22, .I n)] ?_
 refine qK .seq (some 23) (sq 5 10) 66 #[.I ((xs.length : Nat) : Int), .I k, .I n] (sizes_bad (S := fun _ => True) ((xs.length : Nat) : Int) k n (by omega)) ?_
 rintro _ w1 hE2 rfl
 have H := H.ext hE2
 refine qF 5 [(0, .slice a xs.length c), (1, .I k), (2, .I n), (8, .I 0), (9, .I 2)] ?_
 refine qR 6 [.c [2, 0, 1, 0, 1], .c [3]] [(6, .slice none 0 0), (7, .I 2)] ?_
 refine qT (.tuple #[.slice none 0 0, .I 2]) Try.func29 ?_
 exact ⟨_, rfl, H.done, rfl⟩

theorem enc_all {xs : List (BitVec 8)} {k n : Nat} : ∀ d ∈ enc xs k n, d.length = lenOf xs.length k := by
 intro d hd
 unfold enc at hd
 rcases List.mem_append.1 hd with h | h
 · exact dataOf_all _ _ _ d h
 · obtain ⟨j, _, rfl⟩ := List.mem_map.1 h
   exact mixAll_len List.length_replicate (dataOf_all _ _ _)

def okS (size k n : Int) : Prop := 0 ≤ size ∧ size ≤ 65536 ∧ 1 ≤ k ∧ k ≤ n ∧ n ≤ 255
instance (size k n : Int) : Decidable (okS size k n) := by
 unfold okS
 infer_instance
def encG (xs : List (BitVec 8)) (k n : Int) : List (List (BitVec 8)) := if okS (xs.length : Int) k n then enc xs k.toNat n.toNat else []
def encC (xs : List (BitVec 8)) (k n : Int) : Int := if okS (xs.length : Int) k n then 0 else 2
theorem encG_rows {xs : List (BitVec 8)} {k n : Int} : ∀ c ∈ encG xs k n, c.length = lenOf xs.length k.toNat := by
 intro c hc
 unfold encG at hc
 split at hc
 · exact encD_all c hc
 · cases hc
def okL4 (size k : Int) : Prop := 0 ≤ size ∧ size ≤ 65536 ∧ 1 ≤ k ∧ k ≤ 255
instance (size k : Int) : Decidable (okL4 size k) := by
 unfold okL4
 infer_instance
def llG (size k : Int) : Int := if okL4 size k then ((lenOf size.toNat k.toNat : Nat) : Int) else 0
def elG (size k : Int) : Int := if okL4 size k then 0 else 2
def hdG (id : CID) (size k : Int) (cs : List (List (BitVec 8))) : List Hdr := if okS size k (cs.length : Int) ∧ (∀ c ∈ cs, c.length = lenOf size.toNat k.toNat) then headsOf id size.toNat k.toNat cs else []
def hdC (size k : Int) (cs : List (List (BitVec 8))) : Int := if okS size k (cs.length : Int) then (if ∀ c ∈ cs, c.length = lenOf size.toNat k.toNat then 0 else 31) else 2
theorem toNil {α : Type} {sh : Shape α} {P : Program} {f : Nat} {args : Array Value} {S : Nat → Prop} {w : World} {x : Int} (hc : Calls P f args w (Ret fun v w' => Ext w w' ∧ v = .tuple #[.slice none 0 0, .I x])) {L : List α} (hL : L = []) :
 Calls P f args w (Ret fun v w' => Ext w w' ∧ ∃ (a : Option Addr) (c : Nat), v = .tuple #[.slice a L.length c, .I x] ∧ sh.slice.rep (Nw S w) w' [.slice a L.length c] L) :=
 hc.mono fun e W' ⟨v, he, hE, hv⟩ => ⟨v, he, hE, none, 0, by rw [hv, hL]; rfl, by rw [hL]; exact Shape.slice_nil⟩

theorem lenS_gen {S : Nat → Prop} {w : World} (size k : Int) : Calls Try.prog 35 #[.I size, .I k] w (Ret fun v w' => Ext w w' ∧ v = .tuple #[.I (llG size k), .I (elG size k)]) := by
 by_cases h : okL4 size k
 · obtain ⟨h1, h2, h3, h4⟩ := id h
   obtain ⟨size, rfl⟩ : ∃ m : Nat, size = (m : Int) := ⟨size.toNat, by omega⟩
   obtain ⟨k, rfl⟩ : ∃ m : Nat, k = (m : Int) := ⟨k.toNat, by omega⟩
   have e1 : llG size k = ((lenOf size k : Nat) : Int) := if_pos h
   have e2 : elG size k = 0 := if_pos h
   rw [e1, e2]
   exact length_ok (S := S) size k (by omega) (by omega) (by omega)
 · have e1 : llG size k = 0 := if_neg h
   have e2 : elG size k = 2 := if_neg h
   rw [e1, e2]
   exact length_bad (S := S) size k h

theorem lenR_gen {S : Nat → Prop} {w : World} (size k : Int) : Calls Try.prog 36 #[.I size, .I k] w (Ret fun v w' => Ext w w' ∧ v = .tuple #[.I (llG size k), .I (elG size k)]) := by
 by_cases h : okL4 size k
 · obtain ⟨h1, h2, h3, h4⟩ := id h
   obtain ⟨size, rfl⟩ : ∃ m : Nat, size = (m : Int) := ⟨size.toNat, by omega⟩
   obtain ⟨k, rfl⟩ : ∃ m : Nat, k = (m : Int) := ⟨k.toNat, by omega⟩
   have e1 : llG size k = ((lenOf size k : Nat) : Int) := if_pos h
   have e2 : elG size k = 0 := if_pos h
   rw [e1, e2]
   exact r4len_ok (S := S) size k (by omega) (by omega) (by omega)
 · have e1 : llG size k = 0 := if_neg h
   have e2 : elG size k = 2 := if_neg h
   rw [e1, e2]
   exact r4len_bad (S := S) size k h

theorem encS_gen {S : Nat → Prop} {w : World} {xs : List (BitVec 8)} {a : Option Addr} {c : Nat} (k n : Int) (h : SB.rep S w [.slice a xs.length c] xs) :
 Calls Try.prog 29 #[.slice a xs.length c, .I k, .I n] w (Ret fun v w' => Ext w w' ∧ ∃ (a' : Option Addr) (c' : Nat), v = .tuple #[.slice a' (encG xs k n).length c', .I (encC xs k n)] ∧ (Shape.slice SB).rep (Nw S w) w' [.slice a' (encG xs k n).length c'] (encG xs k n)) := by
 by_cases hb : okS (xs.length : Int) k n
 · obtain ⟨h1, h2, h3, h4, h5⟩ := id hb
   obtain ⟨k, rfl⟩ : ∃ m : Nat, k = (m : Int) := ⟨k.toNat, by omega⟩
   obtain ⟨n, rfl⟩ : ∃ m : Nat, n = (m : Int) := ⟨n.toNat, by omega⟩
   have e1 : encG xs k n = enc xs k n := if_pos hb
   have e2 : encC xs k n = 0 := if_pos hb
   rw [e1, e2]
   exact encode_ok k n h (by omega) (by omega) (by omega) (by omega)
 have e1 : encG xs k n = [] := if_neg hb
 have e2 : encC xs k n = 2 := if_neg hb
 rw [e2]
 · exact toNil (encode_bad k n h (fun q => hb ⟨by omega, by omega, q.2.1, q.2.2.1, q.2.2.2⟩)) e1

theorem encR_gen {S : Nat → Prop} {w : World} {xs : List (BitVec 8)} {a : Option Addr} {c : Nat} (k n : Int) (h : SB.rep S w [.slice a xs.length c] xs) :
 Calls Try.prog 34 #[.slice a xs.length c, .I k, .I n] w (Ret fun v w' => Ext w w' ∧ ∃ (a' : Option Addr) (c' : Nat), v = .tuple #[.slice a' (encG xs k n).length c', .I (encC xs k n)] ∧ (Shape.slice SB).rep (Nw S w) w' [.slice a' (encG xs k n).length c'] (encG xs k n)) := by
 by_cases hb : okS (xs.length : Int) k n
 · obtain ⟨h1, h2, h3, h4, h5⟩ := id hb
   obtain ⟨k, rfl⟩ : ∃ m : Nat, k = (m : Int) := ⟨k.toNat, by omega⟩
   obtain ⟨n, rfl⟩ : ∃ m : Nat, n = (m : Int) := ⟨n.toNat, by omega⟩
   have e1 : encG xs k n = enc xs k n := if_pos hb
   have e2 : encC xs k n = 0 := if_pos hb
   rw [e1, e2]
   exact r4enc_ok k n h (by omega) (by omega) (by omega) (by omega)
 have e1 : encG xs k n = [] := if_neg hb
 have e2 : encC xs k n = 2 := if_neg hb
 rw [e2]
 · by_cases hL : okL4 (xs.length : Int) k
   · obtain ⟨h1, h2, h3, h4⟩ := id hL
     obtain ⟨k, rfl⟩ : ∃ m : Nat, k = (m : Int) := ⟨k.toNat, by omega⟩
     exact toNil (r4enc_n k n h (by omega) (by omega) (by omega) (fun q => hb ⟨h1, h2, h3, q.1, q.2⟩)) e1
   · exact toNil (r4enc_len k n h hL) e1

theorem hdS_gen {S : Nat → Prop} {w : World} {cs : List (List (BitVec 8))} {ac : Option Addr} {kc : Nat} {id : CID} {ids : List Value} {m : Nat} (size k : Int) (h : (Shape.slice SB).rep S w [.slice ac cs.length kc] cs) (hid : cidS.rep S w ids id) (hm : ∀ c ∈ cs, c.length = m) :
 Calls Try.prog 38 #[.slice ac cs.length kc, .agg ids.toArray, .I size, .I k] w (Ret fun v w' => Ext w w' ∧ ∃ (a : Option Addr) (c : Nat), v = .tuple #[.slice a (hdG id size k cs).length c, .I (hdC size k cs)] ∧ (Shape.slice hdrS).rep (Nw S w) w' [.slice a (hdG id size k cs).length c] (hdG id size k cs)) := by
 by_cases hb : okS size k (cs.length : Int)
 · obtain ⟨h1, h2, h3, h4, h5⟩ := hb
   have hb : okS size k (cs.length : Int) := ⟨h1, h2, h3, h4, h5⟩
   obtain ⟨size, rfl⟩ : ∃ m : Nat, size = (m : Int) := ⟨size.toNat, by omega⟩
   obtain ⟨k, rfl⟩ : ∃ m : Nat, k = (m : Int) := ⟨k.toNat, by omega⟩
   by_cases hl : m = lenOf size k
   · have h6 : ∀ c ∈ cs, c.length = lenOf size k := fun c hc => (hm c hc).trans hl
     have e1 : hdG id size k cs = headsOf id size k cs := if_pos ⟨hb, h6⟩
     have e2 : hdC size k cs = 0 := (if_pos hb).trans (if_pos h6)
     rw [e1, e2]
     exact heads_ok size k h hid (by omega) (by omega) (by omega) (by omega) h6
   · have h6 : ¬ ∀ c ∈ cs, c.length = lenOf size k := fun q => hl ((hm cs[0] (List.getElem_mem (by omega))).symm.trans (q _ (List.getElem_mem (by omega))))
     have e1 : hdG id size k cs = [] := if_neg fun q => h6 q.2
     have e2 : hdC size k cs = 31 := (if_pos hb).trans (if_neg h6)
     rw [e2]
     exact toNil (heads_piece size k h hid (by omega) (by omega) (by omega) (by omega) hm hl) e1
 have e1 : hdG id size k cs = [] := if_neg fun q => hb q.1
 have e2 : hdC size k cs = 2 := if_neg hb
 rw [e2]
 · exact toNil (heads_arg size k h hid hb) e1

theorem hdR_gen {S : Nat → Prop} {w : World} {cs : List (List (BitVec 8))} {ac : Option Addr} {kc : Nat} {id : CID} {ids : List Value} {m : Nat} (size k : Int) (h : (Shape.slice SB).rep S w [.slice ac cs.length kc] cs) (hid : cidS.rep S w ids id) (hm : ∀ c ∈ cs, c.length = m) :
 Calls Try.prog 39 #[.slice ac cs.length kc, .agg ids.toArray, .I size, .I k] w (Ret fun v w' => Ext w w' ∧ ∃ (a : Option Addr) (c : Nat), v = .tuple #[.slice a (hdG id size k cs).length c, .I (hdC size k cs)] ∧ (Shape.slice hdrS).rep (Nw S w) w' [.slice a (hdG id size k cs).length c] (hdG id size k cs)) := by
 by_cases hb : okS size k (cs.length : Int)
 · obtain ⟨h1, h2, h3, h4, h5⟩ := hb
   have hb : okS size k (cs.length : Int) := ⟨h1, h2, h3, h4, h5⟩
   obtain ⟨size, rfl⟩ : ∃ m : Nat, size = (m : Int) := ⟨size.toNat, by omega⟩
   obtain ⟨k, rfl⟩ : ∃ m : Nat, k = (m : Int) := ⟨k.toNat, by omega⟩
   by_cases hl : m = lenOf size k
   · have h6 : ∀ c ∈ cs, c.length = lenOf size k := fun c hc => (hm c hc).trans hl
     have e1 : hdG id size k cs = headsOf id size k cs := if_pos ⟨hb, h6⟩
     have e2 : hdC size k cs = 0 := (if_pos hb).trans (if_pos h6)
     rw [e1, e2]
     exact r4heads_ok size k h hid (by omega) (by omega) (by omega) (by omega) h6
   · have h6 : ¬ ∀ c ∈ cs, c.length = lenOf size k := fun q => hl ((hm cs[0] (List.getElem_mem (by omega))).symm.trans (q _ (List.getElem_mem (by omega))))
     have e1 : hdG id size k cs = [] := if_neg fun q => h6 q.2
     have e2 : hdC size k cs = 31 := (if_pos hb).trans (if_neg h6)
     rw [e2]
     exact toNil (r4heads_piece size k h hid (by omega) (by omega) (by omega) (by omega) hm hl) e1
 have e1 : hdG id size k cs = [] := if_neg fun q => hb q.1
 have e2 : hdC size k cs = 2 := if_neg hb
 rw [e2]
 · by_cases hL : okL4 size k
   · obtain ⟨h1, h2, h3, h4⟩ := _root_.id hL
     obtain ⟨size, rfl⟩ : ∃ m : Nat, size = (m : Int) := ⟨size.toNat, by omega⟩
     obtain ⟨k, rfl⟩ : ∃ m : Nat, k = (m : Int) := ⟨k.toNat, by omega⟩
     exact toNil (r4heads_arg size k h hid (by omega) (by omega) (by omega) (fun q => hb ⟨h1, h2, h3, by omega, by omega⟩)) e1
   · exact toNil (r4heads_len size k h hid hL) e1

theorem rows02_eq {S : Nat → Prop} {w : World} {ms : List (List (BitVec 8))} {a b : Option Addr} {c d : Nat} (h : (Shape.slice SB).rep S w [.slice a ms.length c] ms) (h2 : (Shape.slice SB).rep S w [.slice b ms.length d] ms) :
 Calls Try.prog 37 #[.slice a ms.length c, .slice b ms.length d] w (Ret fun v w' => Ext w w' ∧ v = .bool true) := by
 have hxl := Shape.slice_len h
 refine qS (fn := Try.f37) (n := 27) (σ := [(0, .slice a ms.length c), (1, .slice b ms.length d)]) Try.func37 ?_
 have H := Hp.startF (w := w) (S := S) (G := [Rp (Shape.slice SB) [.slice a ms.length c] ms, Rp (Shape.slice SB) [.slice b ms.length d] ms]) (.rp h (.rp h2 .nil))
 refine qR 5 [.c [1, 0, 1], .c [2]] [(0, .slice a ms.length c), (1, .slice b ms.length d), (10, .bool (((ms.length : Nat) : Int) != ((ms.length : Nat) : Int)))] ?_
 refine qN ((ms.length : Nat) : Int) ((ms.length : Nat) : Int) (fun h1 => ?_) (fun h1 => ?_)
 ·
  exact absurd rfl h1
 ·
  refine qR 5 [.c [2, 0, 1, 0], .b 0, .c [3]] [(0, .slice a ms.length c), (1, .slice b ms.length d), (5, .I 0)] ?_
  refine WK.loop (α := Nat) (b := cd Try.prog 37 [2, 0, 1, 0, 0]) (by as_aux_lemma => kernel_rfl) (fun i => [(0, .slice a ms.length c), (1, .slice b ms.length d), (5, .I i)]) (fun i w' => Hp w S [] [] [] [Rp (Shape.slice SB) [.slice a ms.length c] ms, Rp (Shape.slice SB) [.slice b ms.length d] ms] w' ∧ i ≤ ms.length) (fun i => ms.length - i) 0 ⟨H, Nat.zero_le _⟩ (rfl) ?_
  rintro i w3 ⟨H, hinv0⟩ hback2
  refine qR 3 [.c [2, 0, 1, 0, 0, 0, 1], .c [2, 0, 1, 0, 0, 1], .l [2, 0, 1, 0, 0], .b 0, .c [3]] [(0, .slice a ms.length c), (1, .slice b ms.length d), (5, .I i), (14, .bool (decide (((i : Int) : Int) < ((ms.length : Nat) : Int))))] ?_
  refine qD (((i : Int) : Int) < ((ms.length : Nat) : Int)) (fun h4 => ?_) (fun h4 => ?_)
  ·
   refine qR 4 [.c [2, 0, 1, 0, 0, 1, 0, 0, 0], .c [2, 0, 1, 0, 0, 1, 0, 0, 1], .b 1, .c [2, 0, 1, 0, 0, 2], .l [2, 0, 1, 0, 0], .b 0, .c [3]] [(0, .slice a ms.length c), (1, .slice b ms.length d), (5, .I i)] ?_
   refine WK.draw1 10 [(0, .qui), (1, .qui), (2, .qui), (3, .qui), (4, .qui), (5, .qui), (6, .qui), (7, .qui), (8, .chn), (9, .qui)] [(0, .qui), (1, .qui), (2, .qui), (3, .qui), (4, .qui), (5, .qui), (6, .qui), (7, .qui), (8, .chn), (9, .qui)] Try_mixed (by as_aux_lemma => kernel_rfl) (by as_aux_lemma => kernel_rfl) (by as_aux_lemma => kernel_rfl) ?_
   have H := H.draw
   generalize ({ w3 with drawn := w3.drawn + 1 } : World) = w5 at H ⊢
   refine qP 2 [(2, .qui), (3, .qui), (4, .qui), (5, .qui), (6, .qui), (7, .qui), (8, .chn), (9, .qui)] [(0, .slice a ms.length c), (1, .slice b ms.length d), (5, .I i), (17, .slice a ms.length c), (18, .I i)] ?_
   have hx6 : i < ms.length := by omega
   refine qX .qui 19 [(3, .qui), (4, .qui), (5, .qui), (6, .qui), (7, .qui), (8, .chn), (9, .qui)] 29 23 (i : Int) SB (ms[i]) H 0 rfl i (by omega) (List.getElem?_eq_getElem hx6) ?_
   intro b7 o8 es9 hr10 H
   obtain ⟨a11, k12, rfl⟩ := Shape.slice_form' hr10
   have H := H.add (F := Rp SB [.slice a11 (ms[i]).length k12] (ms[i])) hr10
   refine qL .qui 20 [(4, .qui), (5, .qui), (6, .qui), (7, .qui), (8, .chn), (9, .qui)] 23 b7 o8 0 (.slice a11 (ms[i]).length k12) (H.fc 1 rfl) ?_
   refine qP 2 [(6, .qui), (7, .qui), (8, .chn), (9, .qui)] [(0, .slice a ms.length c), (1, .slice b ms.length d), (5, .I i), (20, .slice a11 (ms[i]).length k12), (21, .slice b ms.length d), (22, .I i)] ?_
   have hx13 : i < ms.length := by omega
   refine qX .qui 23 [(7, .qui), (8, .chn), (9, .qui)] 29 23 (i : Int) SB (ms[i]) H 3 rfl i (by omega) (List.getElem?_eq_getElem hx13) ?_
   intro b14 o15 es16 hr17 H
   obtain ⟨a18, k19, rfl⟩ := Shape.slice_form' hr17
   have H := H.add (F := Rp SB [.slice a18 (ms[i]).length k19] (ms[i])) hr17
   refine qL .qui 24 [(8, .chn), (9, .qui)] 23 b14 o15 0 (.slice a18 (ms[i]).length k19) (H.fc 1 rfl) ?_
   refine qK .chn (some 25) [(9, .qui)] 30 #[.slice a11 (ms[i]).length k12, .slice a18 (ms[i]).length k19] (same01_spec (S := Av S w [] (idsOf [] [])) (xs := ms[i]) (ys := ms[i]) (H.rp 2 rfl) (H.rp 0 rfl) (rfl)) ?_
   rintro _ w20 hE21 rfl
   have H := H.ext hE21
   refine qF 1 [(0, .slice a ms.length c), (1, .slice b ms.length d), (5, .I i), (26, .bool false)] ?_
   refine qR 3 [.c [2, 0, 1, 0, 0, 2], .l [2, 0, 1, 0, 0], .b 0, .c [3]] [(0, .slice a ms.length c), (1, .slice b ms.length d), (5, .I i)] ?_
   refine qG (sq 0 3) ?_
   refine qP 1 (sq 1 3) [(0, .slice a ms.length c), (1, .slice b ms.length d), (5, .I i), (15, .I i)] ?_
   refine qI .seq 16 (sq 2 3) ((i : Int) + 1) ?_
   refine qF 1 [(0, .slice a ms.length c), (1, .slice b ms.length d), (5, .I ((i : Int) + 1))] ?_
   have H := H.pick [4, 5] rfl
   exact WK.back (hback2 (i + 1) _ ⟨H, by omega⟩ (by first | omega | (simp only []; omega))) (by as_aux_lemma => kernel_rfl)
  ·
   refine qR 3 [.c [4]] [(4, .bool true)] ?_
   refine qT (.bool true) Try.func37 ?_
   exact ⟨_, rfl, H.done, rfl⟩

theorem heads04_eq {S : Nat → Prop} {w : World} {ms : List Hdr} {a b : Option Addr} {c d : Nat} (h : (Shape.slice hdrS).rep S w [.slice a ms.length c] ms) (h2 : (Shape.slice hdrS).rep S w [.slice b ms.length d] ms) :
 Calls Try.prog 40 #[.slice a ms.length c, .slice b ms.length d] w (Ret fun v w' => Ext w w' ∧ v = .bool true) := by
 have hxl := Shape.slice_len h
 refine qS (fn := Try.f40) (n := 26) (σ := [(0, .slice a ms.length c), (1, .slice b ms.length d)]) Try.func40 ?_
 have H := Hp.startF (w := w) (S := S) (G := [Rp (Shape.slice hdrS) [.slice a ms.length c] ms, Rp (Shape.slice hdrS) [.slice b ms.length d] ms]) (.rp h (.rp h2 .nil))
 refine qR 5 [.c [1, 0, 1], .c [2]] [(0, .slice a ms.length c), (1, .slice b ms.length d), (10, .bool (((ms.length : Nat) : Int) != ((ms.length : Nat) : Int)))] ?_
 refine qN ((ms.length : Nat) : Int) ((ms.length : Nat) : Int) (fun h1 => ?_) (fun h1 => ?_)
 ·
  exact absurd rfl h1
 ·
  refine qR 5 [.c [2, 0, 1, 0], .b 0, .c [3]] [(0, .slice a ms.length c), (1, .slice b ms.length d), (5, .I 0)] ?_
  refine WK.loop (α := Nat) (b := cd Try.prog 40 [2, 0, 1, 0, 0]) (by as_aux_lemma => kernel_rfl) (fun i => [(0, .slice a ms.length c), (1, .slice b ms.length d), (5, .I i)]) (fun i w' => Hp w S [] [] [] [Rp (Shape.slice hdrS) [.slice a ms.length c] ms, Rp (Shape.slice hdrS) [.slice b ms.length d] ms] w' ∧ i ≤ ms.length) (fun i => ms.length - i) 0 ⟨H, Nat.zero_le _⟩ (rfl) ?_
  rintro i w3 ⟨H, hinv0⟩ hback2
  refine qR 3 [.c [2, 0, 1, 0, 0, 0, 1], .c [2, 0, 1, 0, 0, 1], .l [2, 0, 1, 0, 0], .b 0, .c [3]] [(0, .slice a ms.length c), (1, .slice b ms.length d), (5, .I i), (14, .bool (decide (((i : Int) : Int) < ((ms.length : Nat) : Int))))] ?_
  refine qD (((i : Int) : Int) < ((ms.length : Nat) : Int)) (fun h4 => ?_) (fun h4 => ?_)
  ·
   refine qR 4 [.c [2, 0, 1, 0, 0, 1, 0, 0, 0], .c [2, 0, 1, 0, 0, 1, 0, 0, 1], .b 1, .c [2, 0, 1, 0, 0, 2], .l [2, 0, 1, 0, 0], .b 0, .c [3]] [(0, .slice a ms.length c), (1, .slice b ms.length d), (5, .I i)] ?_
   refine WK.draw1 9 (qs [0, 1, 2, 3, 4, 5, 6, 7, 8]) (qs [0, 1, 2, 3, 4, 5, 6, 7, 8]) Try_mixed (by as_aux_lemma => kernel_rfl) (by as_aux_lemma => kernel_rfl) (by as_aux_lemma => kernel_rfl) ?_
   have H := H.draw
   generalize ({ w3 with drawn := w3.drawn + 1 } : World) = w5 at H ⊢
   refine qP 2 (qs [2, 3, 4, 5, 6, 7, 8]) [(0, .slice a ms.length c), (1, .slice b ms.length d), (5, .I i), (17, .slice a ms.length c), (18, .I i)] ?_
   have hx6 : i < ms.length := by omega
   refine qX .qui 19 (qs [3, 4, 5, 6, 7, 8]) 28 53 (i : Int) hdrS (ms[i]) H 0 rfl i (by omega) (List.getElem?_eq_getElem hx6) ?_
   intro b7 o8 es9 hr10 H
   obtain ⟨cs0q11, rfl, hf12, hf13, hf14, hf15⟩ := hdr_open hr10
   obtain ⟨rfl, hf17, hf18, hf19⟩ := cid_open hf12
   refine qL .qui 20 (qs [4, 5, 6, 7, 8]) 53 b7 o8 0 (.agg (hdrV (ms[i])).toArray) (H.fc 0 rfl) ?_
   refine qP 2 (qs [6, 7, 8]) [(0, .slice a ms.length c), (1, .slice b ms.length d), (5, .I i), (20, .agg (hdrV (ms[i])).toArray), (21, .slice b ms.length d), (22, .I i)] ?_
   have hx20 : i < ms.length := by omega
   refine qX .qui 23 (qs [7, 8]) 28 53 (i : Int) hdrS (ms[i]) H 2 rfl i (by omega) (List.getElem?_eq_getElem hx20) ?_
   intro b21 o22 es23 hr24 H
   obtain ⟨cs0q25, rfl, hf26, hf27, hf28, hf29⟩ := hdr_open hr24
   obtain ⟨rfl, hf31, hf32, hf33⟩ := cid_open hf26
   refine qL .qui 24 [(8, .qui)] 53 b21 o22 0 (.agg (hdrV (ms[i])).toArray) (H.fc 0 rfl) ?_
   refine RW.neA (κ := .qui) (d := some 25) (r := []) (T := 53) (xs := #[.int .u64 (((ms[i]).id).version), .I (((ms[i]).id).index), .int .u64 (((ms[i]).id).epoch), .I ((ms[i]).kk), .I ((ms[i]).nn), .I ((ms[i]).size), .int .u32 ((((ms[i]).sum).toNat : Nat) : Int)]) (ys := #[.int .u64 (((ms[i]).id).version), .I (((ms[i]).id).index), .int .u64 (((ms[i]).id).epoch), .I ((ms[i]).kk), .I ((ms[i]).nn), .I ((ms[i]).size), .int .u32 ((((ms[i]).sum).toNat : Nat) : Int)]) (ox := (.tmp 20)) (oy := (.tmp 24)) [((((ms[i]).id).version : Int) == ((ms[i]).id).version), ((((ms[i]).id).index : Int) == ((ms[i]).id).index), ((((ms[i]).id).epoch : Int) == ((ms[i]).id).epoch), (((ms[i]).kk : Int) == (ms[i]).kk), (((ms[i]).nn : Int) == (ms[i]).nn), (((ms[i]).size : Int) == (ms[i]).size), ((((((ms[i]).sum).toNat : Nat) : Int) : Int) == ((((ms[i]).sum).toNat : Nat) : Int))] (by as_aux_lemma => kernel_rfl) (by as_aux_lemma => kernel_rfl) (by as_aux_lemma => kernel_rfl) ?_
   refine qF 0 [(0, .slice a ms.length c), (1, .slice b ms.length d), (5, .I i), (25, .bool (!([((((ms[i]).id).version : Int) == ((ms[i]).id).version), ((((ms[i]).id).index : Int) == ((ms[i]).id).index), ((((ms[i]).id).epoch : Int) == ((ms[i]).id).epoch), (((ms[i]).kk : Int) == (ms[i]).kk), (((ms[i]).nn : Int) == (ms[i]).nn), (((ms[i]).size : Int) == (ms[i]).size), ((((((ms[i]).sum).toNat : Nat) : Int) : Int) == ((((ms[i]).sum).toNat : Nat) : Int))].all id)))] ?_
   refine qC (!([((((ms[i]).id).version : Int) == ((ms[i]).id).version), ((((ms[i]).id).index : Int) == ((ms[i]).id).index), ((((ms[i]).id).epoch : Int) == ((ms[i]).id).epoch), (((ms[i]).kk : Int) == (ms[i]).kk), (((ms[i]).nn : Int) == (ms[i]).nn), (((ms[i]).size : Int) == (ms[i]).size), ((((((ms[i]).sum).toNat : Nat) : Int) : Int) == ((((ms[i]).sum).toNat : Nat) : Int))].all id)) (fun h34 => ?_) (fun h34 => ?_)
   ·
    replace h34 : (([((((ms[i]).id).version : Int) == ((ms[i]).id).version), ((((ms[i]).id).index : Int) == ((ms[i]).id).index), ((((ms[i]).id).epoch : Int) == ((ms[i]).id).epoch), (((ms[i]).kk : Int) == (ms[i]).kk), (((ms[i]).nn : Int) == (ms[i]).nn), (((ms[i]).size : Int) == (ms[i]).size), ((((((ms[i]).sum).toNat : Nat) : Int) : Int) == ((((ms[i]).sum).toNat : Nat) : Int))].all id)) = false := by revert h34; cases (([((((ms[i]).id).version : Int) == ((ms[i]).id).version), ((((ms[i]).id).index : Int) == ((ms[i]).id).index), ((((ms[i]).id).epoch : Int) == ((ms[i]).id).epoch), (((ms[i]).kk : Int) == (ms[i]).kk), (((ms[i]).nn : Int) == (ms[i]).nn), (((ms[i]).size : Int) == (ms[i]).size), ((((((ms[i]).sum).toNat : Nat) : Int) : Int) == ((((ms[i]).sum).toNat : Nat) : Int))].all id)) <;> simp
    simp at h34
   ·
    replace h34 : (([((((ms[i]).id).version : Int) == ((ms[i]).id).version), ((((ms[i]).id).index : Int) == ((ms[i]).id).index), ((((ms[i]).id).epoch : Int) == ((ms[i]).id).epoch), (((ms[i]).kk : Int) == (ms[i]).kk), (((ms[i]).nn : Int) == (ms[i]).nn), (((ms[i]).size : Int) == (ms[i]).size), ((((((ms[i]).sum).toNat : Nat) : Int) : Int) == ((((ms[i]).sum).toNat : Nat) : Int))].all id)) = true := by revert h34; cases (([((((ms[i]).id).version : Int) == ((ms[i]).id).version), ((((ms[i]).id).index : Int) == ((ms[i]).id).index), ((((ms[i]).id).epoch : Int) == ((ms[i]).id).epoch), (((ms[i]).kk : Int) == (ms[i]).kk), (((ms[i]).nn : Int) == (ms[i]).nn), (((ms[i]).size : Int) == (ms[i]).size), ((((((ms[i]).sum).toNat : Nat) : Int) : Int) == ((((ms[i]).sum).toNat : Nat) : Int))].all id)) <;> simp
    refine qR 2 [.c [2, 0, 1, 0, 0, 2], .l [2, 0, 1, 0, 0], .b 0, .c [3]] [(0, .slice a ms.length c), (1, .slice b ms.length d), (5, .I i)] ?_
    refine qG (sq 0 3) ?_
    refine qP 1 (sq 1 3) [(0, .slice a ms.length c), (1, .slice b ms.length d), (5, .I i), (15, .I i)] ?_
    refine qI .seq 16 (sq 2 3) ((i : Int) + 1) ?_
    refine qF 1 [(0, .slice a ms.length c), (1, .slice b ms.length d), (5, .I ((i : Int) + 1))] ?_
    have H := H.pick [2, 3] rfl
    exact WK.back (hback2 (i + 1) _ ⟨H, by omega⟩ (by first | omega | (simp only []; omega))) (by as_aux_lemma => kernel_rfl)
  ·
   refine qR 3 [.c [4]] [(4, .bool true)] ?_
   refine qT (.bool true) Try.func40 ?_
   exact ⟨_, rfl, H.done, rfl⟩


end Go.Proofs.Ytppcdmbkgficiaa
