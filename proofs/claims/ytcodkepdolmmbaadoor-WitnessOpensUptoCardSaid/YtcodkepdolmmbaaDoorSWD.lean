import Derived.Test.YtcodkepdolmmbaaDoorSWB
import Derived.Test.YtcodkepdolmmbaaDoorSBxA
namespace Go.Proofs.YtcodkepdolmmbaaDoor
open Go.BX
theorem szH_lost {hs : List Wop} {k : Nat} (hk : k < hs.length) (hz : szH hs) : szH (hs.set k (lost hs[k])) := fun x hx => by
 rcases List.mem_or_eq_of_mem_set hx with hx | rfl
 · exact hz x hx
 · exact hz hs[k] (List.getElem_mem hk)
theorem wop_lost {S : Nat → Prop} {w : World} {es : List Value} {x : Wop} (h : wopS.rep S w es x) : wopS.rep S w (es.set 5 (.I 6)) (lost x) := by
 obtain ⟨a4, k4, a6, k6, a7, k7, rfl, h0, h1, h2, h3, h4, h5, h6, h7, h8, h9⟩ := wop_open h
 exact wop_mk (l0 := [_]) (l1 := [_]) (l2 := [_]) (l3 := [_]) (l4 := [_]) (l5 := [_]) (l6 := [_]) (l7 := [_]) (l8 := [_]) (l9 := [_]) ⟨rfl, h0⟩ ⟨rfl, h1⟩ ⟨rfl, h2⟩ ⟨rfl, h3⟩ h4 ⟨rfl, by decide⟩ h6 h7 ⟨rfl, h8⟩ ⟨rfl, h9⟩
theorem legalN_spec {S : Nat → Prop} {w : World} {hs : List Wop} {a : Option Addr} {c n : Nat} (hn : n = hs.length) (h : (Shape.slice wopS).rep S w [.slice a n c] hs) (hsz : szH hs) (hq : (Fz tabsQ).p S w) :
 Calls Tryd.prog 7 #[.slice a n c] w (Ret fun v w' => Ext w w' ∧ ∃ (b : Bool) (e : Int), v = .tuple #[.bool b, .I e] ∧ judged hs b e) := by
 subst hn
 exact legal_spec h hsz hq
set_option maxHeartbeats 4000000 in
theorem opens_spec {S : Nat → Prop} {w : World} {hs : List Wop} {a : Option Addr} {c : Nat} (h : (Shape.slice wopS).rep S w [.slice a hs.length c] hs) (at_ : Int) (hhb : hs.length ≤ 1048576) (hsz : szH hs) (hq : (Fz tabsQ).p S w) :
 Calls Tryd.prog 3 #[.slice a hs.length c, .I at_] w (Ret fun v w' => Ext w w' ∧ v = .bool true) := by
 have hlen := Shape.slice_len h
 obtain ⟨au, hau, hau2⟩ := wrapU64_nat at_
 refine qS (fn := Tryd.f3) (n := 70) (σ := [(0, .slice a hs.length c), (1, .I at_)]) Tryd.func3 ?_
 have H := Hp.startF (w := w) (S := S) (G := [Rp (Shape.slice wopS) [.slice a hs.length c] hs, Fz tabsQ]) (.rp h (.cons hq .nil))
 refine qR 3 [.c [1, 0], .c [2]] [(0, .slice a hs.length c), (1, .I at_)] ?_
 refine qG (sq 0 7) ?_
 refine qP 1 (sq 1 7) [(0, .slice a hs.length c), (1, .I at_), (12, .slice a hs.length c)] ?_
 refine qK .seq (some 13) (sq 2 7) 7 #[.slice a hs.length c] (legal_spec (hs := hs) (H.rp 0 rfl) (hsz) (H.fact 1 rfl)) ?_
 rintro _ w1 hE2 ⟨bl3, el4, rfl, hj5⟩
 have H := H.ext hE2
 refine qF 5 [(0, .slice a hs.length c), (1, .I at_), (5, .bool bl3), (6, .I el4)] ?_
 refine qR 2 [.c [2, 0, 0], .c [2, 0, 1], .c [3]] [(0, .slice a hs.length c), (1, .I at_), (5, .bool bl3), (6, .I el4)] ?_
 refine qG (sq 0 11) ?_
 refine qP 3 (sq 3 11) [(0, .slice a hs.length c), (1, .I at_), (5, .bool bl3), (18, .bool (el4 != 0))] ?_
 refine tN (fun b_ => [(0, .slice a hs.length c), (1, .I at_), (5, .bool bl3), (18, .bool b_)]) el4 0 (fun h6 => ?_) (fun h6 => ?_)
 ·
  refine qF 8 [(0, .slice a hs.length c), (1, .I at_), (26, .bool true)] ?_
  refine qR 2 [.c [2, 0, 1, 0, 0], .c [2, 0, 1, 0, 1], .c [3]] [] ?_
  refine qG (sq 0 2) ?_
  refine qK .seq (some 27) (sq 1 2) 8 #[] (heads_spec (H.fact 1 rfl)) ?_
  rintro _ w7 hE8 rfl
  have H := H.ext hE8
  refine qF 1 [(4, .bool true)] ?_
  refine qT (.bool true) Tryd.func3 ?_
  exact ⟨_, rfl, H.done, rfl⟩
 ·
  refine qP 4 (sq 7 11) [(0, .slice a hs.length c), (1, .I at_), (22, .bool (!bl3))] ?_
  refine RW.test (fun b_ => [(0, .slice a hs.length c), (1, .I at_), (22, .bool b_)]) (!bl3) (fun h9 => ?_) (fun h9 => ?_)
  ·
   replace h9 : (bl3) = false := by revert h9; cases (bl3) <;> simp
   refine qF 4 [(0, .slice a hs.length c), (1, .I at_), (26, .bool true)] ?_
   refine qR 2 [.c [2, 0, 1, 0, 0], .c [2, 0, 1, 0, 1], .c [3]] [] ?_
   refine qG (sq 0 2) ?_
   refine qK .seq (some 27) (sq 1 2) 8 #[] (heads_spec (H.fact 1 rfl)) ?_
   rintro _ w10 hE11 rfl
   have H := H.ext hE11
   refine qF 1 [(4, .bool true)] ?_
   refine qT (.bool true) Tryd.func3 ?_
   exact ⟨_, rfl, H.done, rfl⟩
  ·
   replace h9 : (bl3) = true := by revert h9; cases (bl3) <;> simp
   have hl1 : legalH hs := hj5.2.2.1 (by simpa using h9)
   refine qF 4 [(0, .slice a hs.length c), (1, .I at_), (26, .bool (((hs.length : Nat) : Int) == 0))] ?_
   refine qE ((hs.length : Nat) : Int) 0 (fun h12 => ?_) (fun h12 => ?_)
   ·
    refine qR 1 [.c [2, 0, 1, 0, 0], .c [2, 0, 1, 0, 1], .c [3]] [] ?_
    refine qG (sq 0 2) ?_
    refine qK .seq (some 27) (sq 1 2) 8 #[] (heads_spec (H.fact 1 rfl)) ?_
    rintro _ w13 hE14 rfl
    have H := H.ext hE14
    refine qF 1 [(4, .bool true)] ?_
    refine qT (.bool true) Tryd.func3 ?_
    exact ⟨_, rfl, H.done, rfl⟩
   ·
    obtain ⟨kx, hkx, hkx2⟩ := rem_ex au (show 0 < hs.length by omega)
    refine qR 2 [.c [3, 0], .c [4]] [(0, .slice a hs.length c), (1, .I at_)] ?_
    refine qG (sq 0 8) ?_
    refine qP 1 (sq 1 8) [(0, .slice a hs.length c), (28, .I at_)] ?_
    refine RW.pv (κ := .seq) (d := some 29) (r := (sq 2 8)) (v' := .int .u64 (au : Int)) (v := .int .u64 (IntKind.u64.wrap (at_))) (by as_aux_lemma => kernel_rfl) (by rw [hau]) ?_
    refine qP 2 (sq 4 8) [(0, .slice a hs.length c), (29, .int .u64 (au : Int)), (31, .I ((hs.length : Nat) : Int))] ?_
    refine RW.pv (κ := .seq) (d := some 32) (r := (sq 5 8)) (v := .int .u64 (IntKind.u64.wrap (((hs.length : Nat) : Int)))) (v' := .int .u64 (((hs.length : Nat) : Int))) (by as_aux_lemma => kernel_rfl) (wr_u64 (by omega)) ?_
    refine RW.readS (κ := .seq) (d := some 33) (r := (sq 6 8)) (s := semV (Op.intDiv .rem .u64 (au : Int) ((hs.length : Nat) : Int))) (v := .int .u64 (kx : Int)) (by as_aux_lemma => kernel_rfl) (fun w' _ => semV_run (remU_nat (r := kx) (by omega) (by omega) (hkx))) ?_
    refine RW.pv (κ := .seq) (d := some 34) (r := (sq 7 8)) (v := .I (IntKind.i64.wrap ((kx : Int)))) (v' := .I ((kx : Int))) (by as_aux_lemma => kernel_rfl) (wr_i64 (by omega)) ?_
    refine qF 1 [(0, .slice a hs.length c), (7, .I kx)] ?_
    refine qR 1 [.c [4, 0], .c [5]] [(0, .slice a hs.length c), (7, .I kx)] ?_
    refine qG (sq 0 4) ?_
    refine RW.new (κ := .seq) (d := some 35) (r := (sq 1 4)) (o := .cells #[] 33 (0, 0)) (v := fun b => .slice (some ⟨b, 0, none⟩) 0 0) (fun b => by as_aux_lemma => kernel_rfl) (nofun) H ?_
    intro b15 w16 H
    refine qP 1 (sq 2 4) [(7, .I kx), (35, .slice (some ⟨b15, 0, none⟩) 0 0), (36, .slice a hs.length c)] ?_
    have H := H.toOwn (sh := wopS) (xs := []) (cap := 0) (by rfl) (Nat.le_refl _) (Nat.zero_le _) (by simp) EsP.nil
    have H : Hp w S [] [] [⟨wopS, 33, .slice (some ⟨b15, 0, none⟩) 0 0, []⟩] [Rp (Shape.slice wopS) [.slice a hs.length c] hs, Fz tabsQ] _ := H
    refine RW.appendW (d := some 37) (r := (sq 3 4)) (T := 22) (ty := 22) (e := 33) (m := 10) (by_ := 136) (v := .slice (some ⟨b15, 0, none⟩) 0 0) (a2 := a) (l2 := hs.length) (c2 := c) (zs := hs) (by as_aux_lemma => kernel_rfl) (by as_aux_lemma => kernel_rfl) rfl H 0 rfl 0 rfl (rfl) (by omega) ?_
    intro a17 c18 w20 H hc19
    have H : Hp w S [] [] [⟨wopS, 33, .slice a17 hs.length c18, hs⟩] [Rp (Shape.slice wopS) [.slice a hs.length c] hs, Fz tabsQ] _ := H
    refine qF 1 [(7, .I kx), (8, .slice a17 hs.length c18)] ?_
    refine qR 2 [.c [5, 0, 0], .c [5, 0, 1], .c [6]] [(7, .I kx), (8, .slice a17 hs.length c18)] ?_
    refine qG (sq 0 14) ?_
    refine qP 2 (sq 2 14) [(7, .I kx), (8, .slice a17 hs.length c18), (38, .slice a17 hs.length c18), (39, .I kx)] ?_
    have hn22 : hs.length = hs.length := rfl
    have hx21 : kx < hs.length := by omega
    refine RW.indexW (κ := .seq) (d := some 40) (r := (sq 3 14)) (T := 22) (e := 33) (m := 10) (ik := .i64) (ix := (kx : Int)) (sh := wopS) (xs := hs) (a := a17) (len := hs.length) (cap := c18) (by as_aux_lemma => kernel_rfl) (by as_aux_lemma => kernel_rfl) rfl H kx (by omega) hx21 hn22 ?_
    intro b23 es24 ha25 hcell26 hr27
    obtain ⟨a4q28, k4q28, a6q28, k6q28, a7q28, k7q28, rfl, hf29, hf30, hf31, hf32, hf33, hf34, hf35, hf36, hf37, hf38⟩ := wop_open hr27
    have H := H.add (F := Rp SB [.slice a4q28 ((hs[kx]).data.length) k4q28] ((hs[kx]).data)) hf33
    have H := H.add (F := Rp SB [.slice a6q28 ((hs[kx]).answer.length) k6q28] ((hs[kx]).answer)) hf35
    have H := H.add (F := Rp (Shape.slice Shape.str) [.slice a7q28 ((hs[kx]).names.length) k7q28] ((hs[kx]).names)) hf36
    refine qP 1 (sq 4 14) [(7, .I kx), (8, .slice a17 hs.length c18), (41, .pointer (some ⟨b23, kx * 10 + 5, none⟩))] ?_
    refine qL .seq 42 (sq 5 14) 30 b23 (kx * 10 + 5) 5 (.I ((hs[kx]).code)) hcell26 ?_
    refine qP 2 (sq 7 14) [(7, .I kx), (8, .slice a17 hs.length c18), (44, .bool (((hs[kx]).code) == 3))] ?_
    refine tE (fun b_ => [(7, .I kx), (8, .slice a17 hs.length c18), (44, .bool b_)]) ((hs[kx]).code) 3 (fun h39 => ?_) (fun h39 => ?_)
    ·
     refine qF 7 [(7, .I kx), (8, .slice a17 hs.length c18), (51, .bool true)] ?_
     refine qR 2 [.c [5, 0, 1, 0, 0], .c [5, 0, 1, 0, 1], .c [6]] [] ?_
     refine qG (sq 0 2) ?_
     refine qK .seq (some 52) (sq 1 2) 8 #[] (heads_spec (H.fact 4 rfl)) ?_
     rintro _ w40 hE41 rfl
     have H := H.ext hE41
     refine qF 1 [(4, .bool true)] ?_
     refine qT (.bool true) Tryd.func3 ?_
     exact ⟨_, rfl, H.done, rfl⟩
    ·
     have h3 := h39
     refine qP 2 (sq 9 14) [(7, .I kx), (8, .slice a17 hs.length c18), (44, .bool false), (45, .slice a17 hs.length c18), (46, .I kx)] ?_
     have hn43 : hs.length = hs.length := rfl
     have hx42 : kx < hs.length := by omega
     refine RW.indexW (κ := .seq) (d := some 47) (r := (sq 10 14)) (T := 22) (e := 33) (m := 10) (ik := .i64) (ix := (kx : Int)) (sh := wopS) (xs := hs) (a := a17) (len := hs.length) (cap := c18) (by as_aux_lemma => kernel_rfl) (by as_aux_lemma => kernel_rfl) rfl H kx (by omega) hx42 hn43 ?_
     intro b44 es45 ha46 hcell47 hr48
     obtain ⟨a4q49, k4q49, a6q49, k6q49, a7q49, k7q49, rfl, hf50, hf51, hf52, hf53, hf54, hf55, hf56, hf57, hf58, hf59⟩ := wop_open hr48
     have H := H.add (F := Rp SB [.slice a4q49 ((hs[kx]).data.length) k4q49] ((hs[kx]).data)) hf54
     have H := H.add (F := Rp SB [.slice a6q49 ((hs[kx]).answer.length) k6q49] ((hs[kx]).answer)) hf56
     have H := H.add (F := Rp (Shape.slice Shape.str) [.slice a7q49 ((hs[kx]).names.length) k7q49] ((hs[kx]).names)) hf57
     refine qP 1 (sq 11 14) [(7, .I kx), (8, .slice a17 hs.length c18), (44, .bool false), (48, .pointer (some ⟨b44, kx * 10 + 5, none⟩))] ?_
     refine qL .seq 49 (sq 12 14) 30 b44 (kx * 10 + 5) 5 (.I ((hs[kx]).code)) hcell47 ?_
     refine qF 2 [(7, .I kx), (8, .slice a17 hs.length c18), (51, .bool (((hs[kx]).code) == 4))] ?_
     refine qE ((hs[kx]).code) 4 (fun h60 => ?_) (fun h60 => ?_)
     ·
      refine qR 1 [.c [5, 0, 1, 0, 0], .c [5, 0, 1, 0, 1], .c [6]] [] ?_
      refine qG (sq 0 2) ?_
      refine qK .seq (some 52) (sq 1 2) 8 #[] (heads_spec (H.fact 7 rfl)) ?_
      rintro _ w61 hE62 rfl
      have H := H.ext hE62
      refine qF 1 [(4, .bool true)] ?_
      refine qT (.bool true) Tryd.func3 ?_
      exact ⟨_, rfl, H.done, rfl⟩
     ·
      have h4 := h60
      have hl2 := legalH_opens hkx2 hl1 h3 h4
      refine qR 2 [.c [6, 0], .c [7]] [(7, .I kx), (8, .slice a17 hs.length c18)] ?_
      refine qG (sq 0 5) ?_
      refine qP 2 (sq 2 5) [(8, .slice a17 hs.length c18), (53, .slice a17 hs.length c18), (54, .I kx)] ?_
      have hn64 : hs.length = hs.length := rfl
      have hx63 : kx < hs.length := by omega
      refine RW.indexW (κ := .seq) (d := some 55) (r := (sq 3 5)) (T := 22) (e := 33) (m := 10) (ik := .i64) (ix := (kx : Int)) (sh := wopS) (xs := hs) (a := a17) (len := hs.length) (cap := c18) (by as_aux_lemma => kernel_rfl) (by as_aux_lemma => kernel_rfl) rfl H kx (by omega) hx63 hn64 ?_
      intro b65 es66 ha67 hcell68 hr69
      obtain ⟨a4q70, k4q70, a6q70, k6q70, a7q70, k7q70, rfl, hf71, hf72, hf73, hf74, hf75, hf76, hf77, hf78, hf79, hf80⟩ := wop_open hr69
      have H := H.add (F := Rp SB [.slice a4q70 ((hs[kx]).data.length) k4q70] ((hs[kx]).data)) hf75
      have H := H.add (F := Rp SB [.slice a6q70 ((hs[kx]).answer.length) k6q70] ((hs[kx]).answer)) hf77
      have H := H.add (F := Rp (Shape.slice Shape.str) [.slice a7q70 ((hs[kx]).names.length) k7q70] ((hs[kx]).names)) hf78
      refine qP 1 (sq 4 5) [(8, .slice a17 hs.length c18), (56, .pointer (some ⟨b65, kx * 10 + 5, none⟩))] ?_
      refine RW.storeWF (d := none) (r := (sq 5 5)) (e := 30) (m := 10) (f := 5) (b := b65) (k := kx) (v := .I 6) (by as_aux_lemma => kernel_rfl) rfl (by decide) (by as_aux_lemma => kernel_rfl) rfl H ha67 (by first | exact hx63 | (simp only [List.length_set]; exact hx63)) (by first | exact hn64 | (simp only [List.length_set]; exact hn64)) (lost hs[kx]) (fun _ _ h => wop_lost h) ?_
      intro w81 H
      refine qF 0 [(8, .slice a17 hs.length c18)] ?_
      refine qR 1 [.c [7, 0], .c [8]] [(8, .slice a17 hs.length c18)] ?_
      refine qG (sq 0 7) ?_
      refine qP 1 (sq 1 7) [(58, .slice a17 hs.length c18)] ?_
      have H : Hp w S [] [] [] [Rp (Shape.slice wopS) [.slice a17 hs.length c18] (hs.set kx (lost hs[kx])), Rp (Shape.slice Shape.str) [.slice a7q70 ((hs[kx]).names.length) k7q70] ((hs[kx]).names), Rp SB [.slice a6q70 ((hs[kx]).answer.length) k6q70] ((hs[kx]).answer), Rp SB [.slice a4q70 ((hs[kx]).data.length) k4q70] ((hs[kx]).data), Rp (Shape.slice Shape.str) [.slice a7q49 ((hs[kx]).names.length) k7q49] ((hs[kx]).names), Rp SB [.slice a6q49 ((hs[kx]).answer.length) k6q49] ((hs[kx]).answer), Rp SB [.slice a4q49 ((hs[kx]).data.length) k4q49] ((hs[kx]).data), Rp (Shape.slice Shape.str) [.slice a7q28 ((hs[kx]).names.length) k7q28] ((hs[kx]).names), Rp SB [.slice a6q28 ((hs[kx]).answer.length) k6q28] ((hs[kx]).answer), Rp SB [.slice a4q28 ((hs[kx]).data.length) k4q28] ((hs[kx]).data), Rp (Shape.slice wopS) [.slice a hs.length c] hs, Fz tabsQ] _ := H.freezeW 0 rfl
      refine qK .seq (some 59) (sq 2 7) 7 #[.slice a17 hs.length c18] (legalN_spec (hs := hs.set kx (lost hs[kx])) (List.length_set ..).symm (H.rp 0 rfl) (szH_lost hkx2 hsz) (H.fact 11 rfl)) ?_
      rintro _ w82 hE83 ⟨bl84, el85, rfl, hj86⟩
      have H := H.ext hE83
      refine qF 5 [(9, .bool bl84), (10, .I el85)] ?_
      refine qR 1 [.c [8, 0], .c [9]] [(9, .bool bl84), (10, .I el85)] ?_
      refine qG (sq 0 9) ?_
      refine qP 2 (sq 2 9) [(10, .I el85), (63, .bool bl84)] ?_
      refine RW.test (fun b_ => [(10, .I el85), (63, .bool b_)]) bl84 (fun h87 => ?_) (fun h87 => ?_)
      ·
       refine qP 4 (sq 6 9) [(67, .bool (el85 == 0))] ?_
       refine tE (fun b_ => [(67, .bool b_)]) el85 0 (fun h88 => ?_) (fun h88 => ?_)
       ·
        refine qK .seq (some 68) (sq 7 9) 8 #[] (heads_spec (H.fact 11 rfl)) ?_
        rintro _ w89 hE90 rfl
        have H := H.ext hE90
        refine qF 2 [(4, .bool true)] ?_
        refine qT (.bool true) Tryd.func3 ?_
        exact ⟨_, rfl, H.done, rfl⟩
       ·
        exact absurd (hj86.2.1.2 hl2.1) h88
      ·
       exact absurd (hj86.2.2.2 hl2) (by simp [*])
end Go.Proofs.YtcodkepdolmmbaaDoor
