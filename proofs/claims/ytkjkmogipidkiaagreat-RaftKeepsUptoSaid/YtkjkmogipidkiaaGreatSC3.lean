import Derived.Test.YtkjkmogipidkiaaGreatSBxA
import Derived.Test.YtkjkmogipidkiaaGreatSC2
namespace Go.Proofs.YtkjkmogipidkiaaGreat
open Go.BX
def memsE : List Mem → List (BitVec 8)
 | [] => []
 | x :: r => intE x.id ++ (intE x.weight ++ memsE r)
theorem memsE_app : ∀ (xs ys : List Mem), memsE (xs ++ ys) = memsE xs ++ memsE ys
 | [], _ => rfl
 | x :: r, ys => by
  show intE x.id ++ (intE x.weight ++ memsE (r ++ ys)) = intE x.id ++ (intE x.weight ++ memsE r) ++ memsE ys
  rw [memsE_app r ys]; simp
theorem memsE_take {xs : List Mem} {k : Nat} (h : k < xs.length) : memsE (xs.take (k + 1)) = memsE (xs.take k) ++ (intE xs[k].id ++ intE xs[k].weight) := by
 rw [List.take_succ_eq_append_getElem h, memsE_app]
 simp [memsE]
def mapE (m : AMap) : List (BitVec 8) := num m.epoch.toNat ++ (num m.members.length ++ memsE m.members)
theorem pmap_spec {S : Nat → Prop} {w : World} {O : List Nat} {bp : Nat} {xs : List (BitVec 8)} {a : Option Addr} {c : Nat} {m : AMap} {am : Option Addr} {km : Nat} (hme : 0 ≤ m.epoch ∧ m.epoch ≤ 18446744073709551615) (H0 : Hp w S O [(bp, .cells #[.slice a xs.length c, .I 0, .bool true, .bool false] 130 (0, 0))] [⟨Sb, 5, .slice a xs.length c, xs⟩] [Rp (Shape.slice memS) [.slice am m.members.length km] m.members] w) (hby : xs.length + 20 * (m.members.length + 4) ≤ 1099511627776) :
 Calls Tryz.prog 100 #[.P bp 0, .agg #[.int .u64 m.epoch, .slice am m.members.length km]] w (Ret fun v w' => ∃ (a' : Option Addr) (c' : Nat), (∃ (a1 : Option Addr) (c1 : Nat), v = .agg #[.int .u64 m.epoch, .slice a1 m.members.length c1]) ∧ Hp w S O [(bp, .cells #[.slice a' (xs ++ mapE m).length c', .I 0, .bool true, .bool false] 130 (0, 0))] [⟨Sb, 5, .slice a' (xs ++ mapE m).length c', (xs ++ mapE m)⟩] [] w') := by
 have hlen := Shape.slice_len (H0.rp 0 rfl)
 have hten : (num m.members.length).length ≤ 10 := num_ten (by omega)
 have Q : (num m.epoch.toNat).length ≤ 10 := num_ten (by omega)
 refine uS1 Tryz.func100 ?_
 have H := H0
 refine uR 1 [.c [0], .c [1]] ?_
 refine qG (sq 0 2) ?_
 refine uC #[.int .u64 m.epoch, .slice am m.members.length km] 60 H ?_
 intro q _ H
 refine uC #[.int .u64 0, .slice none 0 0] 60 H ?_
 intro s _ H
 refine uF 0 ?_
 refine uR 1 [.c [1, 0], .c [2]] ?_
 refine qG (sq 0 6) ?_
 refine uP 2 ?_
 refine uV 25 0 (H.cells 1 rfl) ?_
 have H := H.frontM 2 rfl
 refine uKS (u64_spec (x := m.epoch) (by omega) ((H.lend (M1 := [(bp, .cells #[.slice a xs.length c, .I 0, .bool true, .bool false] 130 (0, 0))]) (W1 := [⟨Sb, 5, .slice a xs.length c, xs⟩])).pick [] rfl) (by first | omega | (simp only [List.length_append, List.length_nil]; omega))) ?_
 rintro _ _ ⟨t, u, rfl, H'⟩
 have H := H.back (M1 := [(bp, .cells #[.slice a xs.length c, .I 0, .bool true, .bool false] 130 (0, 0))]) (W1 := [⟨Sb, 5, .slice a xs.length c, xs⟩]) H'
 have H : Hp w S O [(bp, .cells #[.slice t (xs ++ num m.epoch.toNat).length u, .I 0, .bool true, .bool false] 130 (0, 0)), _, _] [⟨Sb, 5, .slice t (xs ++ num m.epoch.toNat).length u, (xs ++ num m.epoch.toNat)⟩] [_] _ := H
 refine uP 1 ?_
 refine uW 25 0 #[.int .u64 m.epoch, .slice am m.members.length km] H 2 rfl ?_
 intro _ H
 refine uF 0 ?_
 refine uR 1 [.c [2, 0], .c [3]] ?_
 refine qG (sq 0 6) ?_
 refine uP 2 ?_
 refine uV 58 1 (H.cells 2 rfl) ?_
 refine uP 1 ?_
 refine uKS (len_spec (k := m.members.length) (by omega) ((H.lend (M1 := [(bp, .cells #[.slice t (xs ++ num m.epoch.toNat).length u, .I 0, .bool true, .bool false] 130 (0, 0))]) (W1 := [⟨Sb, 5, .slice t (xs ++ num m.epoch.toNat).length u, (xs ++ num m.epoch.toNat)⟩])).pick [] rfl) (by first | omega | (simp only [List.length_append, List.length_nil]; omega))) ?_
 rintro _ _ ⟨z, A, rfl, H'⟩
 have H := H.back (M1 := [(bp, .cells #[.slice t (xs ++ num m.epoch.toNat).length u, .I 0, .bool true, .bool false] 130 (0, 0))]) (W1 := [⟨Sb, 5, .slice t (xs ++ num m.epoch.toNat).length u, (xs ++ num m.epoch.toNat)⟩]) H'
 have H : Hp w S O [(bp, .cells #[.slice z (((xs ++ num m.epoch.toNat) ++ num m.members.length).length) A, .I 0, .bool true, .bool false] 130 (0, 0)), _, _] [⟨Sb, 5, .slice z (((xs ++ num m.epoch.toNat) ++ num m.members.length).length) A, ((xs ++ num m.epoch.toNat) ++ num m.members.length)⟩] [_] _ := H
 refine uF 1 ?_
 refine qR 6 [.c [4, 0, 1, 0], .b 0, .c [5]] [(0, .P bp 0), (3, .P q 0), (4, .P s 0), (5, .I ((m.members.length : Nat) : Int)), (6, .slice none 0 0), (7, .I 0)] ?_
 have H := H.ownNil memS 186
 refine uL (α := Nat × List (BitVec 8) × Option Addr × Nat × Option Addr × Nat) (g := 100) (p := [4, 0, 1, 0, 0]) (fun (i, ys, j, n, ao, co) => [(0, .P bp 0), (3, .P q 0), (4, .P s 0), (5, .I ((m.members.length : Nat) : Int)), (6, .slice ao (m.members.take i).length co), (7, .I i)]) (fun (i, ys, j, n, ao, co) w' => Hp w S O [(bp, .cells #[.slice j ys.length n, .I 0, .bool true, .bool false] 130 (0, 0)), (s, .cells #[.int .u64 0, .slice none 0 0] 60 (0, 0)), (q, .cells #[.int .u64 m.epoch, .slice am m.members.length km] 60 (0, 0))] [⟨memS, 186, .slice ao (m.members.take i).length co, m.members.take i⟩, ⟨Sb, 5, .slice j ys.length n, ys⟩] [Rp (Shape.slice memS) [.slice am m.members.length km] m.members] w' ∧ i ≤ m.members.length ∧ ys = xs ++ num m.epoch.toNat ++ num m.members.length ++ memsE (m.members.take i) ∧ ys.length ≤ xs.length + 20 * (i + 1)) (fun (i, ys, j, n, ao, co) => m.members.length - i) (0, ((xs ++ num m.epoch.toNat) ++ num m.members.length), z, A, none, 0) ⟨H, Nat.zero_le _, by simp [memsE], by simp only [List.length_append]; omega⟩ ?_
 rintro ⟨i, ys, j, n, ao, co⟩ _ ⟨H, e⟩ y
 have htl : (m.members.take i).length = i := List.length_take_of_le e.1
 refine uR 2 [.c [4, 0, 1, 0, 0, 0, 0], .c [4, 0, 1, 0, 0, 0, 1], .c [4, 0, 1, 0, 0, 1], .l [4, 0, 1, 0, 0], .b 0, .c [5]] ?_
 refine qG (sq 0 10) ?_
 refine uP 4 ?_
 refine uD 22 (((i : Int) : Int) < ((m.members.length : Nat) : Int)) (fun L => ?_) (fun L => ?_)
 ·
  refine uP 3 ?_
  refine uV 4 3 (H.cells 0 rfl) ?_
  refine uF 2 ?_
  refine uR 5 [.c [4, 0, 1, 0, 0, 1, 0, 0, 0], .c [4, 0, 1, 0, 0, 1, 0, 0, 1], .b 1, .c [4, 0, 1, 0, 0, 2], .l [4, 0, 1, 0, 0], .b 0, .c [5]] ?_
  refine qG (sq 0 3) ?_
  refine uP 1 ?_
  refine uC #[.I 0, .I 0] 186 H ?_
  intro F _ H
  refine uW 186 0 #[.I 0, .I 0] H 0 rfl ?_
  intro _ H
  refine uF 0 ?_
  refine uR 2 [.c [4, 0, 1, 0, 0, 1, 0, 0, 1, 0, 0], .c [4, 0, 1, 0, 0, 1, 0, 0, 1, 0, 1], .c [4, 0, 1, 0, 0, 1, 0, 0, 2], .b 1, .c [4, 0, 1, 0, 0, 2], .l [4, 0, 1, 0, 0], .b 0, .c [5]] ?_
  refine qG (sq 0 4) ?_
  refine uP 3 ?_
  refine uV 4 2 (H.cells 1 rfl) ?_
  refine uF 0 ?_
  refine qR 1 [.c [4, 0, 1, 0, 0, 1, 0, 0, 1, 0, 1, 0], .c [4, 0, 1, 0, 0, 1, 0, 0, 2], .b 1, .c [4, 0, 1, 0, 0, 2], .l [4, 0, 1, 0, 0], .b 0, .c [5]] [(0, .P bp 0), (3, .P q 0), (4, .P s 0), (5, .I ((m.members.length : Nat) : Int)), (6, .slice ao (m.members.take i).length co), (7, .I i), (8, .P F 0)] ?_
  refine qG (sq 0 6) ?_
  refine uP 1 ?_
  refine uV 58 1 (H.cells 3 rfl) ?_
  refine uP 1 ?_
  have J : i < m.members.length := by omega
  refine uX 58 (i : Int) H 0 rfl i (by omega) (List.getElem?_eq_getElem J) ?_
  intro _ _ _ K H
  obtain ⟨rfl, _, _⟩ := mem_open K
  refine uV 186 0 (H.fc 0 rfl) ?_
  refine uW 186 0 #[.I ((m.members[i]).id), .I ((m.members[i]).weight)] H 0 rfl ?_
  intro _ H
  refine uF 0 ?_
  refine uR 1 [.c [4, 0, 1, 0, 0, 1, 0, 0, 2, 0], .c [4, 0, 1, 0, 0, 1, 0, 0, 3], .b 1, .c [4, 0, 1, 0, 0, 2], .l [4, 0, 1, 0, 0], .b 0, .c [5]] ?_
  have H := H.pick [1] rfl
  refine qG (sq 0 6) ?_
  refine uP 2 ?_
  refine uV 3 0 (H.cells 0 rfl) ?_
  have H := H.frontM 1 rfl
  have H := H.frontW 1 rfl
  refine uKS (int_spec (x := (m.members[i]).id) (by omega) ((H.lend (M1 := [(bp, .cells #[.slice j ys.length n, .I 0, .bool true, .bool false] 130 (0, 0))]) (W1 := [⟨Sb, 5, .slice j ys.length n, ys⟩])).pick [] rfl) (by first | omega | (simp only [List.length_append, List.length_nil]; omega))) ?_
  rintro _ _ ⟨f, h, rfl, H'⟩
  have H := H.back (M1 := [(bp, .cells #[.slice j ys.length n, .I 0, .bool true, .bool false] 130 (0, 0))]) (W1 := [⟨Sb, 5, .slice j ys.length n, ys⟩]) H'
  have H : Hp w S O [(bp, .cells #[.slice f ((ys ++ intE ((m.members[i]).id)).length) h, .I 0, .bool true, .bool false] 130 (0, 0)), _, _, _] [⟨Sb, 5, .slice f ((ys ++ intE ((m.members[i]).id)).length) h, (ys ++ intE ((m.members[i]).id))⟩, _] [_] _ := H
  refine uP 1 ?_
  refine uW 3 0 #[.I ((m.members[i]).id), .I ((m.members[i]).weight)] H 1 rfl ?_
  intro _ H
  refine uF 0 ?_
  refine uR 1 [.c [4, 0, 1, 0, 0, 1, 0, 0, 3, 0], .c [4, 0, 1, 0, 0, 1, 0, 0, 4], .b 1, .c [4, 0, 1, 0, 0, 2], .l [4, 0, 1, 0, 0], .b 0, .c [5]] ?_
  refine qG (sq 0 6) ?_
  have R := intE_ten (x := m.members[i].id) (by omega)
  refine uP 2 ?_
  refine uV 3 1 (H.cells 1 rfl) ?_
  refine uKS (int_spec (x := (m.members[i]).weight) (by omega) ((H.lend (M1 := [(bp, .cells #[.slice f ((ys ++ intE ((m.members[i]).id)).length) h, .I 0, .bool true, .bool false] 130 (0, 0))]) (W1 := [⟨Sb, 5, .slice f ((ys ++ intE ((m.members[i]).id)).length) h, (ys ++ intE ((m.members[i]).id))⟩])).pick [] rfl) (by first | omega | (simp only [List.length_append, List.length_nil]; omega))) ?_
  rintro _ _ ⟨B, C, rfl, H'⟩
  have H := H.back (M1 := [(bp, .cells #[.slice f ((ys ++ intE ((m.members[i]).id)).length) h, .I 0, .bool true, .bool false] 130 (0, 0))]) (W1 := [⟨Sb, 5, .slice f ((ys ++ intE ((m.members[i]).id)).length) h, (ys ++ intE ((m.members[i]).id))⟩]) H'
  have H : Hp w S O [(bp, .cells #[.slice B (((ys ++ intE ((m.members[i]).id)) ++ intE ((m.members[i]).weight)).length) C, .I 0, .bool true, .bool false] 130 (0, 0)), _, _, _] [⟨Sb, 5, .slice B (((ys ++ intE ((m.members[i]).id)) ++ intE ((m.members[i]).weight)).length) C, ((ys ++ intE ((m.members[i]).id)) ++ intE ((m.members[i]).weight))⟩, _] [_] _ := H
  refine uP 1 ?_
  refine uW 3 1 #[.I ((m.members[i]).id), .I ((m.members[i]).weight)] H 1 rfl ?_
  intro _ H
  refine qF 0 [(0, .P bp 0), (3, .P q 0), (4, .P s 0), (5, .I ((m.members.length : Nat) : Int)), (6, .slice ao (m.members.take i).length co), (7, .I i), (8, .P F 0)] ?_
  refine qG (sq 0 5) ?_
  refine uP 1 ?_
  refine uV 186 0 (H.cells 1 rfl) ?_
  refine RW.new (κ := .seq) (d := some 53) (r := (sq 3 5)) (o := .cells #[.I ((m.members[i]).id), .I ((m.members[i]).weight)] 186 (0, 0)) (v := fun b => .slice (some ⟨b, 0, none⟩) 1 1) (fun b => by as_aux_lemma => kernel_rfl) (nofun) H ?_
  intro M _ H
  have H := H.freeze 0 rfl memS ([(m.members[i])] : List Mem) 1 (by simp [maxLen]) (by first | exact Nat.le_refl _ | simp) (EsP.cons (c := [.I ((m.members[i]).id), .I ((m.members[i]).weight)]) (mem_mk i64a i64a) EsP.nil)
  have H : Hp w S O [_, _, _, _] [_, _] [Rp (Shape.slice memS) [.slice (some ⟨M, 0, none⟩) 1 1] ([(m.members[i])] : List Mem), _] _ := H
  refine uA 58 58 16 (m.members.take (i + 1)) H 1 rfl 0 rfl ((take_succ' (by omega)).symm) (by rw [List.length_take]; omega) ?_
  intro D E _ H _
  have H : Hp w S O [_, _, _, _] [_, ⟨memS, 186, .slice D ((m.members.take (i + 1)).length) E, m.members.take (i + 1)⟩] [_, _] _ := H
  refine uF 1 ?_
  refine uR 1 [.c [4, 0, 1, 0, 0, 2], .l [4, 0, 1, 0, 0], .b 0, .c [5]] ?_
  have H := H.dropM 1
  have H := H.pick [1] rfl
  refine qG (sq 0 3) ?_
  refine uP 1 ?_
  refine uI ((i : Int) + 1) ?_
  refine qF 1 [(0, .P bp 0), (3, .P q 0), (4, .P s 0), (5, .I ((m.members.length : Nat) : Int)), (6, .slice D ((m.members.take (i + 1)).length) E), (7, .I ((i : Int) + 1))] ?_
  have H := H.frontW 1 rfl
  exact WK.back (y (i + 1, ((ys ++ intE ((m.members[i]).id)) ++ intE ((m.members[i]).weight)), B, C, D, E) _ ⟨H, by omega, by rw [memsE_take (by omega), e.2.1]; simp, by simp only [List.length_append]; have := intE_ten (x := m.members[i].id) (by omega); have := intE_ten (x := m.members[i].weight) (by omega); omega⟩ (by first | omega | (simp only []; omega))) (by rfl)
 ·
  refine uF 6 ?_
  refine uR 3 [.c [5, 0], .c [6]] ?_
  refine qG (sq 0 3) ?_
  refine uP 2 ?_
  refine uW 58 1 #[.int .u64 m.epoch, .slice ao (m.members.take i).length co] H 2 rfl ?_
  intro _ H
  refine uF 0 ?_
  refine uR 1 [.c [6, 0], .c [7]] ?_
  refine qG (sq 0 2) ?_
  refine uV 60 0 (H.cells 2 rfl) ?_
  refine uW 60 0 #[.int .u64 m.epoch, .slice ao (m.members.take i).length co] H 1 rfl ?_
  intro _ H
  refine uF 0 ?_
  refine qRB (.agg #[.int .u64 m.epoch, .slice ao (m.members.take i).length co]) Tryz.func100 (v1 (.cell 4 60) (vC (H.cells 1 rfl))) ?_
  have H := H.frontW 1 rfl
  have N : i = m.members.length := by omega
  subst N
  rw [List.take_length] at e
  obtain ⟨-, G, -⟩ := e
  rw [List.append_assoc, List.append_assoc] at G
  subst G
  have H := H.take 1 1
  exact ⟨_, rfl, _, _, ⟨_, _, by rw [List.take_length]⟩, H.pick [] rfl⟩
end Go.Proofs.YtkjkmogipidkiaaGreat
