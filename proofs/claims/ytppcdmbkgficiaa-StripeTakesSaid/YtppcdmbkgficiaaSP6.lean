import Derived.Test.YtppcdmbkgficiaaSBxA
import Derived.Test.YtppcdmbkgficiaaSP5
namespace Go.Proofs.Ytppcdmbkgficiaa
open Go.BX
def objL (ys : List Pc) (k n size : Nat) : List (BitVec 8) := (datL ys k n (lenOf size k)).flatten.take size
theorem flat_len {m : List (List (BitVec 8))} {l : Nat} (h : ∀ x ∈ m, x.length = l) : m.flatten.length = m.length * l := by
 rw [← catTo_all]
 exact catTo_len h (Nat.le_refl _)
theorem decode_ok {S : Nat → Prop} {w : World} {ps : List Pc} {a : Option Addr} {c : Nat} (h : (Shape.slice pcS).rep S w [.slice a ps.length c] ps) {size k n : Nat} (hs : size ≤ 65536) (hk : 1 ≤ k) (hkn : k ≤ n) (hn : n ≤ 255) (hok : PsOk ps n (lenOf size k)) (hlen : k ≤ ps.length) (hreg : ∀ ys : List Pc, ys.Perm ps → ys.Pairwise (fun x y => x.index ≤ y.index) → (redTo (subM ys k n) (ident k) k).1 = k) :
 Calls Try.prog 31 #[.slice a ps.length c, .I size, .I k, .I n] w (Ret fun v w' => Ext w w' ∧ ∃ (a : Option Addr) (c : Nat) (ys : List Pc), v = .tuple #[.slice a (objL ys k n size).length c, .I 0] ∧ ys.Perm ps ∧ ys.Pairwise (fun x y => x.index ≤ y.index) ∧ SB.rep (Nw S w) w' [.slice a (objL ys k n size).length c] (objL ys k n size)) := by
 refine uS1 Try.func31 ?_
 have H := Hp.startF (.rp h .nil)
 refine uR 3 [.c [1, 0], .c [2]] ?_
 refine qG (sq 0 12) ?_
 refine uP 4 ?_
 refine uK (data_ok (ps := ps) (H.rp 0 rfl) (size := size) (k := k) (n := n) hs hk hkn hn hok hlen hreg) ?_
 rintro _ _ g ⟨_, _, ys, rfl, hys, hord, i⟩
 have H := H.addM g i
 have hyl := hys.length_eq
 have hyd : ∀ p ∈ ys, p.data.length = lenOf size k := fun p hp => hok.len p (hys.mem_iff.1 hp)
 have hdl := datL_len (n := n) (l := lenOf size k) (show k ≤ ys.length by omega)
 have hda := datL_all (k := k) (n := n) hyd
 have hLs := lenOf_le (size := size) (k := k) (by omega)
 have hfl := flat_len hda
 have hmu := lenOf_mul (size := size) (k := k) (by omega)
 rw [hdl] at hfl
 refine uF 7 ?_
 refine uR 6 [.c [3, 0], .c [4]] ?_
 refine qG (sq 0 6) ?_
 refine uP 1 ?_
 refine uK (concat_spec (m := (datL ys k n (lenOf size k))) (H.rp 0 rfl) (by omega) (l := lenOf size k) (hda) (by omega)) ?_
 rintro _ _ - H'
 have H := H.back (M1 := []) (W1 := []) H'
 obtain ⟨f, b, rfl, _, _⟩ := H.ownForm 0 rfl
 have H : Hp w S [] [] [⟨Sb, 5, .slice f (((datL ys k n (lenOf size k)).flatten).length) b, (datL ys k n (lenOf size k)).flatten⟩] [_, _] _ := H
 refine uP 1 ?_
 have H : Hp w S [] [] [] [Rp SB [.slice f (((datL ys k n (lenOf size k)).flatten).length) b] ((datL ys k n (lenOf size k)).flatten), _, _] _ := H.freezeW 0 rfl
 refine RW.slice (κ := .seq) (d := some 28) (r := (sq 4 6)) (T := 23) (e := 5) (sh := Sb) (a := f) (len := (((datL ys k n (lenOf size k)).flatten).length)) (cap := b) (zs := (objL ys k n size)) (lv := none) (hv := (some (.I size))) (by as_aux_lemma => kernel_rfl) (by as_aux_lemma => kernel_rfl) H 0 rfl 0 size .nil (.mk (by omega)) (by omega) (by omega) (by rw [List.drop_zero]; rfl) ?_
 intro j H
 refine uF 2 ?_
 refine qT (.tuple #[.slice j (objL ys k n size).length b, .I 0]) Try.func31 ?_
 exact ⟨_, rfl, H.done, _, _, ys, rfl, hys, hord, H.out (H.rp 0 rfl)⟩
theorem decode_few {S : Nat → Prop} {w : World} {ps : List Pc} {a : Option Addr} {c : Nat} (h : (Shape.slice pcS).rep S w [.slice a ps.length c] ps) {size k n : Nat} (hs : size ≤ 65536) (hk : 1 ≤ k) (hkn : k ≤ n) (hn : n ≤ 255) (hok : PsOk ps n (lenOf size k)) (hlen : ps.length < k) :
 Calls Try.prog 31 #[.slice a ps.length c, .I size, .I k, .I n] w (Ret fun v w' => Ext w w' ∧ v = .tuple #[.slice none 0 0, .I 30]) := by
 refine uS1 Try.func31 ?_
 have H := Hp.startF (.rp h .nil)
 refine uR 3 [.c [1, 0], .c [2]] ?_
 refine qG (sq 0 12) ?_
 refine uP 4 ?_
 refine uK (data_few (S := fun _ => True) (ps := ps) (H.viewF 0 rfl) (size := size) (k := k) (n := n) hs hk hkn hn hok hlen) ?_
 rintro _ _ b rfl
 have H := H.ext b
 refine uF 7 ?_
 refine uR 6 [.c [2, 0, 1, 0, 1], .c [3]] ?_
 refine qT (.tuple #[.slice none 0 0, .I 30]) Try.func31 ?_
 exact ⟨_, rfl, H.done, rfl⟩
theorem same01_spec {S : Nat → Prop} {w : World} {xs ys : List (BitVec 8)} {a b : Option Addr} {c d : Nat} (h1 : SB.rep S w [.slice a xs.length c] xs) (h2 : SB.rep S w [.slice b ys.length d] ys) (he : xs = ys) :
 Calls Try.prog 30 #[.slice a xs.length c, .slice b ys.length d] w (Ret fun v w' => Ext w w' ∧ v = .bool true) := by
 refine uS1 Try.func30 ?_
 have H := Hp.startF (.rp h1 (.rp h2 .nil))
 refine uR 3 [.c [1, 0], .c [2]] ?_
 refine qG (sq 0 6) ?_
 refine uP 1 ?_
 refine RW.toStr (κ := .seq) (d := some 6) (r := (sq 2 6)) (Ts := 23) (Td := 9) 5 (a := a) (len := xs.length) (cap := c) (xs := xs) (by as_aux_lemma => kernel_rfl) (by as_aux_lemma => kernel_rfl) (H.rp 0 rfl) ?_
 refine uP 1 ?_
 refine RW.toStr (κ := .seq) (d := some 8) (r := (sq 4 6)) (Ts := 23) (Td := 9) 5 (a := b) (len := ys.length) (cap := d) (xs := ys) (by as_aux_lemma => kernel_rfl) (by as_aux_lemma => kernel_rfl) (H.rp 1 rfl) ?_
 refine uF 2 ?_
 refine qT (.bool ((strOf xs).toList == (strOf ys).toList)) Try.func30 ?_
 refine ⟨_, rfl, H.done, ?_⟩
 rw [he]
 simp
end Go.Proofs.Ytppcdmbkgficiaa
