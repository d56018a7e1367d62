import Derived.Test.YtdnibpclkhenmaaGreatDoorSJ7
namespace Go.Proofs.YtdnibpclkhenmaaGreatDoor
open Go.BX
theorem names_c {S : Nat → Prop} {w : World} {O : List Nat} {db nb sk c sn : Nat} {sv : Option Nat} {sa : Option Addr} {L : NameL} {armed : Bool} {left : Int} (hT : MOk L c) (hk : ∀ x ∈ L, x.1.size ≤ maxLen) (hl : L.length ≤ 1048576) (H0 : Hp w S O [(db, .cells #[.bool true, .map sv, .map (some nb), .slice sa sn sk, .bool armed, .I left, .bool false] 39 (0, 0)), (nb, mapO Value.string ptrV L c)] [] [] w) :
 Calls Tryz.prog 105 #[.P db 0] w (Ret fun v w' => ∃ (a : Option Addr) (cp : Nat) (ns : List ByteArray), ns.Perm (L.map (·.1)) ∧ v = .slice a ns.length cp ∧ Hp w S O [(db, .cells #[.bool true, .map sv, .map (some nb), .slice sa sn sk, .bool armed, .I left, .bool false] 39 (0, 0)), (nb, mapO Value.string ptrV L c)] [⟨Shape.str, 9, .slice a ns.length cp, ns⟩] [] w') := by
 refine qS (fn := Tryz.f105) (n := 12) (σ := [(0, .P db 0)]) Tryz.func105 ?_
 have H := H0
 refine qR 4 [.c [1, 0, 0], .c [1, 0, 1], .c [2]] [(0, .P db 0)] ?_
 refine qG (sq 0 3) ?_
 refine qP 1 (sq 1 3) [(0, .P db 0), (3, .P db 0)] ?_
 refine qK .seq (some 4) (sq 2 3) 104 #[.P db 0] (state_spec (S := fun _ => True) (made := true) (dead := false) (H.viewM 0 rfl (by simp))) ?_
 rintro _ w1 hE2 rfl
 have H := H.ext hE2
 refine qF 1 [(0, .P db 0), (5, .bool false)] ?_
 refine qR 3 [.c [2, 0], .c [3]] [(0, .P db 0)] ?_
 refine qG (sq 0 7) ?_
 refine qP 3 (sq 3 7) [(8, .P db 2)] ?_
 refine qL .seq 9 (sq 4 7) 36 db 2 2 (.map (some nb)) (H.cells 0 rfl) ?_
 refine RW.callS (d := some 10) (r := (sq 5 7)) (g := 156) (args := #[.map (some nb)]) (by as_aux_lemma => kernel_rfl) (keys_h nb H) ?_
 rintro _ w3 ⟨b4, rfl, H⟩
 have H : Hp w S O [(b4, .cells #[.map (some nb)] 36 (0, 0)), (db, .cells #[.bool true, .map sv, .map (some nb), .slice sa sn sk, .bool armed, .I left, .bool false] 39 (0, 0)), (nb, mapO Value.string ptrV L c)] [] [] _ := H
 have H := H.frontM 2 (M' := [(nb, mapO Value.string ptrV L c), (b4, .cells #[.map (some nb)] 36 (0, 0)), (db, .cells #[.bool true, .map sv, .map (some nb), .slice sa sn sk, .bool armed, .I left, .bool false] 39 (0, 0))]) rfl
 have H := H.frontM 1 (M' := [(b4, .cells #[.map (some nb)] 36 (0, 0)), (nb, mapO Value.string ptrV L c), (db, .cells #[.bool true, .map sv, .map (some nb), .slice sa sn sk, .bool armed, .I left, .bool false] 39 (0, 0))]) rfl
 refine RW.callS (d := some 11) (r := (sq 6 7)) (g := 155) (args := #[.func (.func 197) #[] #[.P b4 0]]) (by as_aux_lemma => kernel_rfl) (sorted_c H hT hk hl (St := Av S w O (idsOf [(b4, .cells #[.map (some nb)] 36 (0, 0)), (nb, mapO Value.string ptrV L c), (db, .cells #[.bool true, .map sv, .map (some nb), .slice sa sn sk, .bool armed, .I left, .bool false] 39 (0, 0))] []))) ?_
 rintro _ w5 ⟨-, a6, c7, ns8, hn9, rfl, H'⟩
 have H := H.back (M1 := []) (W1 := []) H'
 have H : Hp w S O [(b4, .cells #[.map (some nb)] 36 (0, 0)), (nb, mapO Value.string ptrV L c), (db, .cells #[.bool true, .map sv, .map (some nb), .slice sa sn sk, .bool armed, .I left, .bool false] 39 (0, 0))] [⟨Shape.str, 9, .slice a6 ns8.length c7, ns8⟩] [] _ := H
 refine qF 1 [(2, .slice a6 ns8.length c7)] ?_
 refine qT (.slice a6 ns8.length c7) Tryz.func105 ?_
 have H := H.frontM 1 (M' := [(nb, mapO Value.string ptrV L c), (b4, .cells #[.map (some nb)] 36 (0, 0)), (db, .cells #[.bool true, .map sv, .map (some nb), .slice sa sn sk, .bool armed, .I left, .bool false] 39 (0, 0))]) rfl
 have H := H.frontM 2 (M' := [(db, .cells #[.bool true, .map sv, .map (some nb), .slice sa sn sk, .bool armed, .I left, .bool false] 39 (0, 0)), (nb, mapO Value.string ptrV L c), (b4, .cells #[.map (some nb)] 36 (0, 0))]) rfl
 have H := H.drop (M' := [(db, .cells #[.bool true, .map sv, .map (some nb), .slice sa sn sk, .bool armed, .I left, .bool false] 39 (0, 0)), (nb, mapO Value.string ptrV L c)]) (W' := [⟨Shape.str, 9, .slice a6 ns8.length c7, ns8⟩]) (by repeat (first | exact List.Sublist.refl _ | exact List.nil_sublist _ | apply List.Sublist.cons_cons | apply List.Sublist.cons)) (by repeat (first | exact List.Sublist.refl _ | exact List.nil_sublist _ | apply List.Sublist.cons_cons | apply List.Sublist.cons))
 exact ⟨_, rfl, _, _, _, hn9, rfl, H⟩
theorem dNames {S : Nat → Prop} {w : World} {O : List Nat} {db : Nat} {D : DiskD} {sa : Option Addr} {sk : Nat} (hd : DI D) (hdd : D.dead = false) (hl : D.now.length ≤ 256) (H0 : Hp w S O (diskM db D sa sk) [diskW D sa sk] [] w) :
 Calls Tryz.prog 105 #[.P db 0] w (Ret fun v w' => ∃ (a : Option Addr) (cp : Nat) (ns : List ByteArray), ns.Perm (D.now.map (·.1)) ∧ v = .slice a ns.length cp ∧ Hp w S O (diskM db D sa sk) [⟨Shape.str, 9, .slice a ns.length cp, ns⟩, diskW D sa sk] [] w') := by
 have hT := hd.ok.mnow
 have hk : ∀ x ∈ D.now, x.1.size ≤ maxLen := fun x hx => by
  have h1 : mfind x.1 D.now ≠ none := fun q => mfind_none.1 q (List.mem_map.2 ⟨x, hx, rfl⟩)
  rw [nm_now hd.ok] at h1
  obtain ⟨o, ho⟩ := Option.ne_none_iff_exists'.1 h1
  have := (hd.form _ _ _ ho).size.1
  unfold maxLen; omega
 obtain ⟨sb, nb, A, lc, L, c, fs, steps, armed, left, dead⟩ := D
 obtain rfl : dead = false := hdd
 refine (names_c hT hk (Nat.le_trans hl (by decide)) ((H0.lend (M1 := [dkB db _ sa sk, (nb, mapO Value.string ptrV L c)]) (W1 := [])).pick [] rfl)).mono fun e w' hh => ?_
 obtain ⟨v, he, a, cp, ns, hp, hv, H'⟩ := hh
 exact ⟨v, he, a, cp, ns, hp, hv, (H0.back (M1 := [dkB db _ sa sk, (nb, mapO Value.string ptrV L c)]) (W1 := []) H').pick [] rfl⟩
end Go.Proofs.YtdnibpclkhenmaaGreatDoor
