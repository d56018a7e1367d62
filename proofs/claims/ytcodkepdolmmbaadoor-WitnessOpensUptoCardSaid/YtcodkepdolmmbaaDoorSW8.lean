import Derived.Test.YtcodkepdolmmbaaDoorSW7
namespace Go.Proofs.YtcodkepdolmmbaaDoor
open Go.BX
def judged (hs : List Wop) (b : Bool) (e : Int) : Prop := (e = 0 ∨ e = 240) ∧ (e = 0 ↔ okH hs) ∧ (b = true ↔ legalH hs)
theorem judged_bad {hs : List Wop} {e : Int} (h1 : e = 0 ∨ e = 240) (h2 : e = 0 ↔ okH hs) (h : e ≠ 0) : judged hs false e := ⟨h1, h2, fun q => (by cases q), fun q => absurd (h2.2 q.1) h⟩
theorem judged_ok {hs : List Wop} {e : Int} {b : Bool} (h2 : e = 0 ↔ okH hs) (h : e = 0) (hb : b = true ↔ Ex (left hs) []) : judged hs b 0 := ⟨.inl rfl, ⟨fun _ => h2.1 h, fun _ => rfl⟩, hb.trans ⟨fun q => ⟨h2.1 h, q⟩, fun q => q.2⟩⟩
theorem order_spec {S : Nat → Prop} {w : World} {hs : List Wop} {a : Option Addr} {c : Nat} (h : (Shape.slice wopS).rep S w [.slice a hs.length c] hs) (hsz : szH hs) (hq : (Fz tabsQ).p S w) :
 Calls Tryd.prog 10 #[.slice a hs.length c] w (Ret fun v w' => Ext w w' ∧ ∃ (lv : Value) (b : Bool) (e : Int), v = .tuple #[lv, .bool b, .I e] ∧ judged hs b e) := by
 refine qS (fn := Tryd.f10) (n := 20) (σ := [(0, .slice a hs.length c)]) Tryd.func10 ?_
 have H := Hp.startF (w := w) (S := S) (G := [Rp (Shape.slice wopS) [.slice a hs.length c] hs, Fz tabsQ]) (.rp h (.cons hq .nil))
 refine qR 4 [.c [1, 0, 0], .c [1, 0, 1], .c [2]] [(0, .slice a hs.length c)] ?_
 refine qG (sq 0 3) ?_
 refine qP 1 (sq 1 3) [(0, .slice a hs.length c), (8, .slice a hs.length c)] ?_
 refine qK .seq (some 9) (sq 2 3) 13 #[.slice a hs.length c] (check_spec (hs := hs) (H.rp 0 rfl)) ?_
 rintro _ w1 hE2 ⟨er3, rfl, her4, hok5⟩
 have H := H.ext hE2
 refine qF 1 [(0, .slice a hs.length c), (5, .I er3)] ?_
 refine qR 2 [.c [1, 0, 2], .c [2]] [(0, .slice a hs.length c), (5, .I er3), (11, .bool (er3 != 0))] ?_
 refine qN er3 0 (fun h6 => ?_) (fun h6 => ?_)
 ·
  refine qR 2 [.c [1, 0, 2, 0, 1], .c [2]] [(2, .slice none 0 0), (3, .bool false), (4, .I er3)] ?_
  refine qT (.tuple #[.slice none 0 0, .bool false, .I er3]) Tryd.func10 ?_
  exact ⟨_, rfl, H.done, _, _, _, rfl, judged_bad her4 hok5 (by assumption)⟩
 ·
  refine qR 2 [.c [2, 0], .c [3]] [(0, .slice a hs.length c)] ?_
  refine qG (sq 0 7) ?_
  refine qP 1 (sq 1 7) [(14, .slice a hs.length c)] ?_
  refine qK .seq (some 15) (sq 2 7) 14 #[.slice a hs.length c] (search_spec (hs := hs) (H.rp 0 rfl) (hok5.1 (by assumption)).1 hsz (H.fact 1 rfl)) ?_
  rintro _ w7 hE8 ⟨lv9, bs10, rfl, hbs11⟩
  have H := H.ext hE8
  refine qF 5 [(6, lv9), (7, .bool bs10)] ?_
  refine qR 2 [.c [4]] [(2, lv9), (3, .bool bs10), (4, .I 0)] ?_
  refine qT (.tuple #[lv9, .bool bs10, .I 0]) Tryd.func10 ?_
  exact ⟨_, rfl, H.done, _, _, _, rfl, judged_ok hok5 (by assumption) hbs11⟩
theorem legal_spec {S : Nat → Prop} {w : World} {hs : List Wop} {a : Option Addr} {c : Nat} (h : (Shape.slice wopS).rep S w [.slice a hs.length c] hs) (hsz : szH hs) (hq : (Fz tabsQ).p S w) :
 Calls Tryd.prog 7 #[.slice a hs.length c] w (Ret fun v w' => Ext w w' ∧ ∃ (b : Bool) (e : Int), v = .tuple #[.bool b, .I e] ∧ judged hs b e) := by
 refine qS (fn := Tryd.f7) (n := 15) (σ := [(0, .slice a hs.length c)]) Tryd.func7 ?_
 have H := Hp.startF (w := w) (S := S) (G := [Rp (Shape.slice wopS) [.slice a hs.length c] hs, Fz tabsQ]) (.rp h (.cons hq .nil))
 refine qR 3 [.c [1, 0], .c [2]] [(0, .slice a hs.length c)] ?_
 refine qG (sq 0 9) ?_
 refine qP 1 (sq 1 9) [(8, .slice a hs.length c)] ?_
 refine qK .seq (some 9) (sq 2 9) 10 #[.slice a hs.length c] (order_spec (hs := hs) (H.rp 0 rfl) hsz (H.fact 1 rfl)) ?_
 rintro _ w1 hE2 ⟨lv3, bo4, eo5, rfl, hj6⟩
 have H := H.ext hE2
 refine qF 7 [(5, .bool bo4), (6, .I eo5)] ?_
 refine qR 2 [.c [3]] [(2, .bool bo4), (3, .I eo5)] ?_
 refine qT (.tuple #[.bool bo4, .I eo5]) Tryd.func7 ?_
 exact ⟨_, rfl, H.done, _, _, rfl, hj6⟩
end Go.Proofs.YtcodkepdolmmbaaDoor
