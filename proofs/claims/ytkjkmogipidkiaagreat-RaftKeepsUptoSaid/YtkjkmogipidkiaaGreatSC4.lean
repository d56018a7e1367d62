import Derived.Test.YtkjkmogipidkiaaGreatSBxA
import Derived.Test.YtkjkmogipidkiaaGreatSC3
namespace Go.Proofs.YtkjkmogipidkiaaGreat
open Go.BX
def cmdE (c : Cmd) : List (BitVec 8) := intE c.kind ++ (num c.client.toNat ++ (num c.seq.toNat ++ (textE c.key ++ (intE c.size ++ (num c.sum.toNat ++ (num c.version.toNat ++ (num c.epoch.toNat ++ (intE c.group ++ (intE c.node ++ (flagE c.up ++ (idE c.id ++ mapE c.amap)))))))))))
def CmdOk (c : Cmd) : Prop := (-9223372036854775808 ≤ c.kind ∧ c.kind ≤ 9223372036854775807) ∧ (0 ≤ c.client ∧ c.client ≤ 18446744073709551615) ∧ (0 ≤ c.seq ∧ c.seq ≤ 18446744073709551615) ∧ c.key.size ≤ maxLen ∧ (-9223372036854775808 ≤ c.size ∧ c.size ≤ 9223372036854775807) ∧ (0 ≤ c.version ∧ c.version ≤ 18446744073709551615) ∧ (0 ≤ c.epoch ∧ c.epoch ≤ 18446744073709551615) ∧ (-9223372036854775808 ≤ c.group ∧ c.group ≤ 9223372036854775807) ∧ (-9223372036854775808 ≤ c.node ∧ c.node ≤ 9223372036854775807) ∧ CidOk c.id ∧ (0 ≤ c.amap.epoch ∧ c.amap.epoch ≤ 18446744073709551615)
theorem cmd_ok {S : Nat → Prop} {w : World} {cs : List Value} {c : Cmd} (h : cmdS.rep S w cs c) : CmdOk c := by
 obtain ⟨_, _, rfl, e, f, g, i, j, l, m, n, o, b, d⟩ := cmd_open h
 obtain ⟨rfl, p, q, r⟩ := cid_open b
 obtain ⟨a, k, rfl, s, _⟩ := amap_open d
 exact ⟨e, f, g, i, j, l, m, n, o, ⟨p, q, r⟩, s⟩
theorem textE_len {s : ByteArray} (h : s.size ≤ maxLen) : (textE s).length ≤ s.size + 10 := by
 unfold textE bytesE
 have hb := bytesOf_len s
 rw [List.length_append, hb]
 have : (num s.size).length ≤ 10 := num_ten (by unfold maxLen at h; omega)
 omega
set_option maxHeartbeats 4000000 in
theorem pcmd_spec {S : Nat → Prop} {w : World} {O : List Nat} {bp : Nat} {xs : List (BitVec 8)} {a : Option Addr} {c : Nat} {cc : Cmd} {am : Option Addr} {km : Nat} (hc : CmdOk cc) (H0 : Hp w S O [(bp, .cells #[.slice a xs.length c, .I 0, .bool true, .bool false] 130 (0, 0))] [⟨Sb, 5, .slice a xs.length c, xs⟩] [Rp (Shape.slice memS) [.slice am cc.amap.members.length km] cc.amap.members] w) (hby : xs.length + (cc.key.size + 20 * (cc.amap.members.length + 20)) ≤ 1099511627776) :
 Calls Tryz.prog 60 #[.P bp 0, .agg #[.I cc.kind, .int .u64 cc.client, .int .u64 cc.seq, .string cc.key, .I cc.size, .int .u32 ((cc.sum.toNat : Nat) : Int), .int .u64 cc.version, .int .u64 cc.epoch, .I cc.group, .I cc.node, .bool cc.up, .int .u64 cc.id.version, .I cc.id.index, .int .u64 cc.id.epoch, .int .u64 cc.amap.epoch, .slice am cc.amap.members.length km]] w (Ret fun v w' => ∃ (a' : Option Addr) (c' : Nat), (∃ (t : ByteArray) (a1 : Option Addr) (c1 : Nat), v = .agg #[.I cc.kind, .int .u64 cc.client, .int .u64 cc.seq, .string t, .I cc.size, .int .u32 ((cc.sum.toNat : Nat) : Int), .int .u64 cc.version, .int .u64 cc.epoch, .I cc.group, .I cc.node, .bool cc.up, .int .u64 cc.id.version, .I cc.id.index, .int .u64 cc.id.epoch, .int .u64 cc.amap.epoch, .slice a1 cc.amap.members.length c1]) ∧ Hp w S O [(bp, .cells #[.slice a' (xs ++ cmdE cc).length c', .I 0, .bool true, .bool false] 130 (0, 0))] [⟨Sb, 5, .slice a' (xs ++ cmdE cc).length c', (xs ++ cmdE cc)⟩] [] w') := by
 obtain ⟨G0, _, _, C0, I0, _, _, J0, K0, F0, _⟩ := hc
 have hti := idE_len F0
 have htf := flagE_len cc.up
 have htk := textE_len C0
 have M0 : (intE cc.kind).length ≤ 10 := intE_ten G0
 have N0 : (num cc.client.toNat).length ≤ 10 := num_ten (by omega)
 have O0 : (num cc.seq.toNat).length ≤ 10 := num_ten (by omega)
 have P0 : (intE cc.size).length ≤ 10 := intE_ten I0
 have Q0 : (num cc.sum.toNat).length ≤ 10 := num_ten (by have := cc.sum.isLt; omega)
 have R0 : (num cc.version.toNat).length ≤ 10 := num_ten (by omega)
 have S0 : (num cc.epoch.toNat).length ≤ 10 := num_ten (by omega)
 have T0 : (intE cc.group).length ≤ 10 := intE_ten J0
 have U0 : (intE cc.node).length ≤ 10 := intE_ten K0
 refine uS1 Tryz.func60 ?_
 have H := H0
 refine uR 1 [.c [0], .c [1]] ?_
 refine qG (sq 0 2) ?_
 refine uC #[.I cc.kind, .int .u64 cc.client, .int .u64 cc.seq, .string cc.key, .I cc.size, .int .u32 ((cc.sum.toNat : Nat) : Int), .int .u64 cc.version, .int .u64 cc.epoch, .I cc.group, .I cc.node, .bool cc.up, .int .u64 cc.id.version, .I cc.id.index, .int .u64 cc.id.epoch, .int .u64 cc.amap.epoch, .slice am cc.amap.members.length km] 62 H ?_
 intro Z _ H
 refine uC #[.I 0, .int .u64 0, .int .u64 0, .string (⟨#[]⟩ : ByteArray), .I 0, .int .u32 0, .int .u64 0, .int .u64 0, .I 0, .I 0, .bool false, .int .u64 0, .I 0, .int .u64 0, .int .u64 0, .slice none 0 0] 62 H ?_
 intro b3 _ H
 refine uF 0 ?_
 refine uR 1 [.c [1, 0], .c [2]] ?_
 refine qG (sq 0 6) ?_
 refine uP 2 ?_
 refine uV 57 0 (H.cells 1 rfl) ?_
 have H := H.frontM 2 rfl
 refine uKS (int_spec (x := cc.kind) (by omega) ((H.lend (M1 := [(bp, .cells #[.slice a xs.length c, .I 0, .bool true, .bool false] 130 (0, 0))]) (W1 := [⟨Sb, 5, .slice a xs.length c, xs⟩])).pick [] rfl) (by first | omega | (simp only [List.length_append, List.length_nil]; omega))) ?_
 rintro _ _ ⟨a7, c8, rfl, H'⟩
 have H := H.back (M1 := [(bp, .cells #[.slice a xs.length c, .I 0, .bool true, .bool false] 130 (0, 0))]) (W1 := [⟨Sb, 5, .slice a xs.length c, xs⟩]) H'
 have H : Hp w S O [(bp, .cells #[.slice a7 (xs ++ intE cc.kind).length c8, .I 0, .bool true, .bool false] 130 (0, 0)), _, _] [⟨Sb, 5, .slice a7 (xs ++ intE cc.kind).length c8, (xs ++ intE cc.kind)⟩] [_] _ := H
 obtain ⟨e, a0⟩ : ∃ z, z = (xs ++ intE cc.kind) := ⟨_, rfl⟩
 rw [← a0] at H
 have p0 := congrArg List.length a0
 rw [List.length_append] at p0
 refine uP 1 ?_
 refine uW 57 0 #[.I cc.kind, .int .u64 cc.client, .int .u64 cc.seq, .string cc.key, .I cc.size, .int .u32 ((cc.sum.toNat : Nat) : Int), .int .u64 cc.version, .int .u64 cc.epoch, .I cc.group, .I cc.node, .bool cc.up, .int .u64 cc.id.version, .I cc.id.index, .int .u64 cc.id.epoch, .int .u64 cc.amap.epoch, .slice am cc.amap.members.length km] H 2 rfl ?_
 intro _ H
 refine uF 0 ?_
 refine uR 1 [.c [2, 0], .c [3]] ?_
 refine qG (sq 0 6) ?_
 refine uP 2 ?_
 refine uV 25 1 (H.cells 2 rfl) ?_
 refine uKS (u64_spec (x := cc.client) (by omega) ((H.lend (M1 := [(bp, .cells #[.slice a7 e.length c8, .I 0, .bool true, .bool false] 130 (0, 0))]) (W1 := [⟨Sb, 5, .slice a7 e.length c8, e⟩])).pick [] rfl) (by first | omega | (simp only [List.length_append, List.length_nil]; omega))) ?_
 rintro _ _ ⟨r, u, rfl, H'⟩
 have H := H.back (M1 := [(bp, .cells #[.slice a7 e.length c8, .I 0, .bool true, .bool false] 130 (0, 0))]) (W1 := [⟨Sb, 5, .slice a7 e.length c8, e⟩]) H'
 have H : Hp w S O [(bp, .cells #[.slice r (e ++ num cc.client.toNat).length u, .I 0, .bool true, .bool false] 130 (0, 0)), _, _] [⟨Sb, 5, .slice r (e ++ num cc.client.toNat).length u, (e ++ num cc.client.toNat)⟩] [_] _ := H
 obtain ⟨f, b0⟩ : ∃ z, z = (e ++ num cc.client.toNat) := ⟨_, rfl⟩
 rw [← b0] at H
 have q0 := congrArg List.length b0
 rw [List.length_append] at q0
 refine uP 1 ?_
 refine uW 25 1 #[.I cc.kind, .int .u64 cc.client, .int .u64 cc.seq, .string cc.key, .I cc.size, .int .u32 ((cc.sum.toNat : Nat) : Int), .int .u64 cc.version, .int .u64 cc.epoch, .I cc.group, .I cc.node, .bool cc.up, .int .u64 cc.id.version, .I cc.id.index, .int .u64 cc.id.epoch, .int .u64 cc.amap.epoch, .slice am cc.amap.members.length km] H 2 rfl ?_
 intro _ H
 refine uF 0 ?_
 refine qR 1 [.c [3, 0], .c [4]] [(0, .P bp 0), (3, .P Z 0), (4, .P b3 0)] ?_
 refine qG (sq 0 6) ?_
 refine uP 2 ?_
 refine uV 25 2 (H.cells 2 rfl) ?_
 refine uKS (u64_spec (x := cc.seq) (by omega) ((H.lend (M1 := [(bp, .cells #[.slice r f.length u, .I 0, .bool true, .bool false] 130 (0, 0))]) (W1 := [⟨Sb, 5, .slice r f.length u, f⟩])).pick [] rfl) (by first | omega | (simp only [List.length_append, List.length_nil]; omega))) ?_
 rintro _ _ ⟨y, A, rfl, H'⟩
 have H := H.back (M1 := [(bp, .cells #[.slice r f.length u, .I 0, .bool true, .bool false] 130 (0, 0))]) (W1 := [⟨Sb, 5, .slice r f.length u, f⟩]) H'
 have H : Hp w S O [(bp, .cells #[.slice y (f ++ num cc.seq.toNat).length A, .I 0, .bool true, .bool false] 130 (0, 0)), _, _] [⟨Sb, 5, .slice y (f ++ num cc.seq.toNat).length A, (f ++ num cc.seq.toNat)⟩] [_] _ := H
 obtain ⟨g, c0⟩ : ∃ z, z = (f ++ num cc.seq.toNat) := ⟨_, rfl⟩
 rw [← c0] at H
 have r0 := congrArg List.length c0
 rw [List.length_append] at r0
 refine uP 1 ?_
 refine uW 25 2 #[.I cc.kind, .int .u64 cc.client, .int .u64 cc.seq, .string cc.key, .I cc.size, .int .u32 ((cc.sum.toNat : Nat) : Int), .int .u64 cc.version, .int .u64 cc.epoch, .I cc.group, .I cc.node, .bool cc.up, .int .u64 cc.id.version, .I cc.id.index, .int .u64 cc.id.epoch, .int .u64 cc.amap.epoch, .slice am cc.amap.members.length km] H 2 rfl ?_
 intro _ H
 refine uF 0 ?_
 refine uR 1 [.c [4, 0], .c [5]] ?_
 refine qG (sq 0 6) ?_
 refine uP 2 ?_
 refine uV 9 3 (H.cells 2 rfl) ?_
 refine uKS (text_spec (s := cc.key) C0 ((H.lend (M1 := [(bp, .cells #[.slice y g.length A, .I 0, .bool true, .bool false] 130 (0, 0))]) (W1 := [⟨Sb, 5, .slice y g.length A, g⟩])).pick [] rfl) (by first | omega | (simp only [List.length_append, List.length_nil]; omega))) ?_
 rintro _ _ ⟨B, C, ⟨d, rfl⟩, H'⟩
 have H := H.back (M1 := [(bp, .cells #[.slice y g.length A, .I 0, .bool true, .bool false] 130 (0, 0))]) (W1 := [⟨Sb, 5, .slice y g.length A, g⟩]) H'
 have H : Hp w S O [(bp, .cells #[.slice B (g ++ textE cc.key).length C, .I 0, .bool true, .bool false] 130 (0, 0)), _, _] [⟨Sb, 5, .slice B (g ++ textE cc.key).length C, (g ++ textE cc.key)⟩] [_] _ := H
 obtain ⟨h, d0⟩ : ∃ z, z = (g ++ textE cc.key) := ⟨_, rfl⟩
 rw [← d0] at H
 have s0 := congrArg List.length d0
 rw [List.length_append] at s0
 refine uP 1 ?_
 refine uW 9 3 #[.I cc.kind, .int .u64 cc.client, .int .u64 cc.seq, .string d, .I cc.size, .int .u32 ((cc.sum.toNat : Nat) : Int), .int .u64 cc.version, .int .u64 cc.epoch, .I cc.group, .I cc.node, .bool cc.up, .int .u64 cc.id.version, .I cc.id.index, .int .u64 cc.id.epoch, .int .u64 cc.amap.epoch, .slice am cc.amap.members.length km] H 2 rfl ?_
 intro _ H
 refine uF 0 ?_
 refine uR 1 [.c [5, 0], .c [6]] ?_
 refine qG (sq 0 6) ?_
 refine uP 2 ?_
 refine uV 3 4 (H.cells 2 rfl) ?_
 refine uKS (int_spec (x := cc.size) (by omega) ((H.lend (M1 := [(bp, .cells #[.slice B h.length C, .I 0, .bool true, .bool false] 130 (0, 0))]) (W1 := [⟨Sb, 5, .slice B h.length C, h⟩])).pick [] rfl) (by first | omega | (simp only [List.length_append, List.length_nil]; omega))) ?_
 rintro _ _ ⟨E, F, rfl, H'⟩
 have H := H.back (M1 := [(bp, .cells #[.slice B h.length C, .I 0, .bool true, .bool false] 130 (0, 0))]) (W1 := [⟨Sb, 5, .slice B h.length C, h⟩]) H'
 have H : Hp w S O [(bp, .cells #[.slice E (h ++ intE cc.size).length F, .I 0, .bool true, .bool false] 130 (0, 0)), _, _] [⟨Sb, 5, .slice E (h ++ intE cc.size).length F, (h ++ intE cc.size)⟩] [_] _ := H
 obtain ⟨i, e0⟩ : ∃ z, z = (h ++ intE cc.size) := ⟨_, rfl⟩
 rw [← e0] at H
 have t0 := congrArg List.length e0
 rw [List.length_append] at t0
 refine uP 1 ?_
 refine uW 3 4 #[.I cc.kind, .int .u64 cc.client, .int .u64 cc.seq, .string d, .I cc.size, .int .u32 ((cc.sum.toNat : Nat) : Int), .int .u64 cc.version, .int .u64 cc.epoch, .I cc.group, .I cc.node, .bool cc.up, .int .u64 cc.id.version, .I cc.id.index, .int .u64 cc.id.epoch, .int .u64 cc.amap.epoch, .slice am cc.amap.members.length km] H 2 rfl ?_
 intro _ H
 refine qF 0 [(0, .P bp 0), (3, .P Z 0), (4, .P b3 0)] ?_
 refine uR 1 [.c [6, 0], .c [7]] ?_
 refine qG (sq 0 6) ?_
 refine uP 2 ?_
 refine uV 49 5 (H.cells 2 rfl) ?_
 refine uKS (pu32_spec (x := cc.sum) ((H.lend (M1 := [(bp, .cells #[.slice E i.length F, .I 0, .bool true, .bool false] 130 (0, 0))]) (W1 := [⟨Sb, 5, .slice E i.length F, i⟩])).pick [] rfl) (by first | omega | (simp only [List.length_append, List.length_nil]; omega))) ?_
 rintro _ _ ⟨G, J, rfl, H'⟩
 have H := H.back (M1 := [(bp, .cells #[.slice E i.length F, .I 0, .bool true, .bool false] 130 (0, 0))]) (W1 := [⟨Sb, 5, .slice E i.length F, i⟩]) H'
 have H : Hp w S O [(bp, .cells #[.slice G (i ++ num cc.sum.toNat).length J, .I 0, .bool true, .bool false] 130 (0, 0)), _, _] [⟨Sb, 5, .slice G (i ++ num cc.sum.toNat).length J, (i ++ num cc.sum.toNat)⟩] [_] _ := H
 obtain ⟨j, f0⟩ : ∃ z, z = (i ++ num cc.sum.toNat) := ⟨_, rfl⟩
 rw [← f0] at H
 have u0 := congrArg List.length f0
 rw [List.length_append] at u0
 refine uP 1 ?_
 refine uW 49 5 #[.I cc.kind, .int .u64 cc.client, .int .u64 cc.seq, .string d, .I cc.size, .int .u32 ((cc.sum.toNat : Nat) : Int), .int .u64 cc.version, .int .u64 cc.epoch, .I cc.group, .I cc.node, .bool cc.up, .int .u64 cc.id.version, .I cc.id.index, .int .u64 cc.id.epoch, .int .u64 cc.amap.epoch, .slice am cc.amap.members.length km] H 2 rfl ?_
 intro _ H
 refine uF 0 ?_
 refine uR 1 [.c [7, 0], .c [8]] ?_
 refine qG (sq 0 6) ?_
 refine uP 2 ?_
 refine uV 25 6 (H.cells 2 rfl) ?_
 refine uKS (u64_spec (x := cc.version) (by omega) ((H.lend (M1 := [(bp, .cells #[.slice G j.length J, .I 0, .bool true, .bool false] 130 (0, 0))]) (W1 := [⟨Sb, 5, .slice G j.length J, j⟩])).pick [] rfl) (by first | omega | (simp only [List.length_append, List.length_nil]; omega))) ?_
 rintro _ _ ⟨K, L, rfl, H'⟩
 have H := H.back (M1 := [(bp, .cells #[.slice G j.length J, .I 0, .bool true, .bool false] 130 (0, 0))]) (W1 := [⟨Sb, 5, .slice G j.length J, j⟩]) H'
 have H : Hp w S O [(bp, .cells #[.slice K (j ++ num cc.version.toNat).length L, .I 0, .bool true, .bool false] 130 (0, 0)), _, _] [⟨Sb, 5, .slice K (j ++ num cc.version.toNat).length L, (j ++ num cc.version.toNat)⟩] [_] _ := H
 obtain ⟨k, g0⟩ : ∃ z, z = (j ++ num cc.version.toNat) := ⟨_, rfl⟩
 rw [← g0] at H
 have v0 := congrArg List.length g0
 rw [List.length_append] at v0
 refine uP 1 ?_
 refine uW 25 6 #[.I cc.kind, .int .u64 cc.client, .int .u64 cc.seq, .string d, .I cc.size, .int .u32 ((cc.sum.toNat : Nat) : Int), .int .u64 cc.version, .int .u64 cc.epoch, .I cc.group, .I cc.node, .bool cc.up, .int .u64 cc.id.version, .I cc.id.index, .int .u64 cc.id.epoch, .int .u64 cc.amap.epoch, .slice am cc.amap.members.length km] H 2 rfl ?_
 intro _ H
 refine uF 0 ?_
 refine uR 1 [.c [8, 0], .c [9]] ?_
 refine qG (sq 0 6) ?_
 refine uP 2 ?_
 refine uV 25 7 (H.cells 2 rfl) ?_
 refine uKS (u64_spec (x := cc.epoch) (by omega) ((H.lend (M1 := [(bp, .cells #[.slice K k.length L, .I 0, .bool true, .bool false] 130 (0, 0))]) (W1 := [⟨Sb, 5, .slice K k.length L, k⟩])).pick [] rfl) (by first | omega | (simp only [List.length_append, List.length_nil]; omega))) ?_
 rintro _ _ ⟨M, N, rfl, H'⟩
 have H := H.back (M1 := [(bp, .cells #[.slice K k.length L, .I 0, .bool true, .bool false] 130 (0, 0))]) (W1 := [⟨Sb, 5, .slice K k.length L, k⟩]) H'
 have H : Hp w S O [(bp, .cells #[.slice M (k ++ num cc.epoch.toNat).length N, .I 0, .bool true, .bool false] 130 (0, 0)), _, _] [⟨Sb, 5, .slice M (k ++ num cc.epoch.toNat).length N, (k ++ num cc.epoch.toNat)⟩] [_] _ := H
 obtain ⟨l, h0⟩ : ∃ z, z = (k ++ num cc.epoch.toNat) := ⟨_, rfl⟩
 rw [← h0] at H
 have w0 := congrArg List.length h0
 rw [List.length_append] at w0
 refine qP 1 (sq 5 6) [(0, .P bp 0), (3, .P Z 0), (4, .P b3 0), (43, .int .u64 cc.epoch), (44, .P Z 7)] ?_
 refine uW 25 7 #[.I cc.kind, .int .u64 cc.client, .int .u64 cc.seq, .string d, .I cc.size, .int .u32 ((cc.sum.toNat : Nat) : Int), .int .u64 cc.version, .int .u64 cc.epoch, .I cc.group, .I cc.node, .bool cc.up, .int .u64 cc.id.version, .I cc.id.index, .int .u64 cc.id.epoch, .int .u64 cc.amap.epoch, .slice am cc.amap.members.length km] H 2 rfl ?_
 intro _ H
 refine uF 0 ?_
 refine uR 1 [.c [9, 0], .c [10]] ?_
 refine qG (sq 0 6) ?_
 refine uP 2 ?_
 refine uV 3 8 (H.cells 2 rfl) ?_
 refine uKS (int_spec (x := cc.group) (by omega) ((H.lend (M1 := [(bp, .cells #[.slice M l.length N, .I 0, .bool true, .bool false] 130 (0, 0))]) (W1 := [⟨Sb, 5, .slice M l.length N, l⟩])).pick [] rfl) (by first | omega | (simp only [List.length_append, List.length_nil]; omega))) ?_
 rintro _ _ ⟨Q, R, rfl, H'⟩
 have H := H.back (M1 := [(bp, .cells #[.slice M l.length N, .I 0, .bool true, .bool false] 130 (0, 0))]) (W1 := [⟨Sb, 5, .slice M l.length N, l⟩]) H'
 have H : Hp w S O [(bp, .cells #[.slice Q (l ++ intE cc.group).length R, .I 0, .bool true, .bool false] 130 (0, 0)), _, _] [⟨Sb, 5, .slice Q (l ++ intE cc.group).length R, (l ++ intE cc.group)⟩] [_] _ := H
 obtain ⟨n, i0⟩ : ∃ z, z = (l ++ intE cc.group) := ⟨_, rfl⟩
 rw [← i0] at H
 have x0 := congrArg List.length i0
 rw [List.length_append] at x0
 refine uP 1 ?_
 refine uW 3 8 #[.I cc.kind, .int .u64 cc.client, .int .u64 cc.seq, .string d, .I cc.size, .int .u32 ((cc.sum.toNat : Nat) : Int), .int .u64 cc.version, .int .u64 cc.epoch, .I cc.group, .I cc.node, .bool cc.up, .int .u64 cc.id.version, .I cc.id.index, .int .u64 cc.id.epoch, .int .u64 cc.amap.epoch, .slice am cc.amap.members.length km] H 2 rfl ?_
 intro _ H
 refine uF 0 ?_
 refine uR 1 [.c [10, 0], .c [11]] ?_
 refine qG (sq 0 6) ?_
 refine uP 2 ?_
 refine uV 3 9 (H.cells 2 rfl) ?_
 refine uKS (int_spec (x := cc.node) (by omega) ((H.lend (M1 := [(bp, .cells #[.slice Q n.length R, .I 0, .bool true, .bool false] 130 (0, 0))]) (W1 := [⟨Sb, 5, .slice Q n.length R, n⟩])).pick [] rfl) (by first | omega | (simp only [List.length_append, List.length_nil]; omega))) ?_
 rintro _ _ ⟨T, U, rfl, H'⟩
 have H := H.back (M1 := [(bp, .cells #[.slice Q n.length R, .I 0, .bool true, .bool false] 130 (0, 0))]) (W1 := [⟨Sb, 5, .slice Q n.length R, n⟩]) H'
 have H : Hp w S O [(bp, .cells #[.slice T (n ++ intE cc.node).length U, .I 0, .bool true, .bool false] 130 (0, 0)), _, _] [⟨Sb, 5, .slice T (n ++ intE cc.node).length U, (n ++ intE cc.node)⟩] [_] _ := H
 obtain ⟨o, j0⟩ : ∃ z, z = (n ++ intE cc.node) := ⟨_, rfl⟩
 rw [← j0] at H
 have y0 := congrArg List.length j0
 rw [List.length_append] at y0
 refine uP 1 ?_
 refine uW 3 9 #[.I cc.kind, .int .u64 cc.client, .int .u64 cc.seq, .string d, .I cc.size, .int .u32 ((cc.sum.toNat : Nat) : Int), .int .u64 cc.version, .int .u64 cc.epoch, .I cc.group, .I cc.node, .bool cc.up, .int .u64 cc.id.version, .I cc.id.index, .int .u64 cc.id.epoch, .int .u64 cc.amap.epoch, .slice am cc.amap.members.length km] H 2 rfl ?_
 intro _ H
 refine uF 0 ?_
 refine uR 1 [.c [11, 0], .c [12]] ?_
 refine qG (sq 0 6) ?_
 refine qP 2 (sq 2 6) [(0, .P bp 0), (3, .P Z 0), (4, .P b3 0), (55, .P bp 0), (56, .P Z 10)] ?_
 refine uV 4 10 (H.cells 2 rfl) ?_
 refine uKS (flag_spec (b := cc.up) ((H.lend (M1 := [(bp, .cells #[.slice T o.length U, .I 0, .bool true, .bool false] 130 (0, 0))]) (W1 := [⟨Sb, 5, .slice T o.length U, o⟩])).pick [] rfl) (by first | omega | (simp only [List.length_append, List.length_nil]; omega))) ?_
 rintro _ _ ⟨V, W, rfl, H'⟩
 have H := H.back (M1 := [(bp, .cells #[.slice T o.length U, .I 0, .bool true, .bool false] 130 (0, 0))]) (W1 := [⟨Sb, 5, .slice T o.length U, o⟩]) H'
 have H : Hp w S O [(bp, .cells #[.slice V (o ++ flagE cc.up).length W, .I 0, .bool true, .bool false] 130 (0, 0)), _, _] [⟨Sb, 5, .slice V (o ++ flagE cc.up).length W, (o ++ flagE cc.up)⟩] [_] _ := H
 obtain ⟨p, k0⟩ : ∃ z, z = (o ++ flagE cc.up) := ⟨_, rfl⟩
 rw [← k0] at H
 have z0 := congrArg List.length k0
 rw [List.length_append] at z0
 refine uP 1 ?_
 refine uW 4 10 #[.I cc.kind, .int .u64 cc.client, .int .u64 cc.seq, .string d, .I cc.size, .int .u32 ((cc.sum.toNat : Nat) : Int), .int .u64 cc.version, .int .u64 cc.epoch, .I cc.group, .I cc.node, .bool cc.up, .int .u64 cc.id.version, .I cc.id.index, .int .u64 cc.id.epoch, .int .u64 cc.amap.epoch, .slice am cc.amap.members.length km] H 2 rfl ?_
 intro _ H
 refine uF 0 ?_
 refine uR 1 [.c [12, 0], .c [13]] ?_
 refine qG (sq 0 6) ?_
 refine uP 2 ?_
 refine uV 48 11 (H.cells 2 rfl) ?_
 refine uKS (pid_spec (D := cc.id) (by first | assumption | exact hD.1) ((H.lend (M1 := [(bp, .cells #[.slice V p.length W, .I 0, .bool true, .bool false] 130 (0, 0))]) (W1 := [⟨Sb, 5, .slice V p.length W, p⟩])).pick [] rfl) (by first | omega | (simp only [List.length_append, List.length_nil]; omega))) ?_
 rintro _ _ ⟨X, Y, rfl, H'⟩
 have H := H.back (M1 := [(bp, .cells #[.slice V p.length W, .I 0, .bool true, .bool false] 130 (0, 0))]) (W1 := [⟨Sb, 5, .slice V p.length W, p⟩]) H'
 have H : Hp w S O [(bp, .cells #[.slice X (p ++ idE cc.id).length Y, .I 0, .bool true, .bool false] 130 (0, 0)), _, _] [⟨Sb, 5, .slice X (p ++ idE cc.id).length Y, (p ++ idE cc.id)⟩] [_] _ := H
 obtain ⟨q, l0⟩ : ∃ z, z = (p ++ idE cc.id) := ⟨_, rfl⟩
 rw [← l0] at H
 have A0 := congrArg List.length l0
 rw [List.length_append] at A0
 refine uP 1 ?_
 refine uW 48 11 #[.I cc.kind, .int .u64 cc.client, .int .u64 cc.seq, .string d, .I cc.size, .int .u32 ((cc.sum.toNat : Nat) : Int), .int .u64 cc.version, .int .u64 cc.epoch, .I cc.group, .I cc.node, .bool cc.up, .int .u64 cc.id.version, .I cc.id.index, .int .u64 cc.id.epoch, .int .u64 cc.amap.epoch, .slice am cc.amap.members.length km] H 2 rfl ?_
 intro _ H
 refine uF 0 ?_
 refine uR 1 [.c [13, 0], .c [14]] ?_
 refine qG (sq 0 6) ?_
 refine uP 2 ?_
 refine uV 60 14 (H.cells 2 rfl) ?_
 refine uKS (pmap_spec (m := cc.amap) (by omega) ((H.lend (M1 := [(bp, .cells #[.slice X q.length Y, .I 0, .bool true, .bool false] 130 (0, 0))]) (W1 := [⟨Sb, 5, .slice X q.length Y, q⟩])).pick [0] rfl) (by first | omega | (simp only [List.length_append, List.length_nil]; omega))) ?_
 rintro _ _ ⟨D0, E0, ⟨n0, o0, rfl⟩, H'⟩
 have H := H.back (M1 := [(bp, .cells #[.slice X q.length Y, .I 0, .bool true, .bool false] 130 (0, 0))]) (W1 := [⟨Sb, 5, .slice X q.length Y, q⟩]) H'
 have H : Hp w S O [(bp, .cells #[.slice D0 (q ++ mapE cc.amap).length E0, .I 0, .bool true, .bool false] 130 (0, 0)), _, _] [⟨Sb, 5, .slice D0 (q ++ mapE cc.amap).length E0, (q ++ mapE cc.amap)⟩] [_] _ := H
 obtain ⟨L0, m0⟩ : ∃ z, z = (q ++ mapE cc.amap) := ⟨_, rfl⟩
 rw [← m0] at H
 have B0 := congrArg List.length m0
 rw [List.length_append] at B0
 refine uP 1 ?_
 refine uW 60 14 #[.I cc.kind, .int .u64 cc.client, .int .u64 cc.seq, .string d, .I cc.size, .int .u32 ((cc.sum.toNat : Nat) : Int), .int .u64 cc.version, .int .u64 cc.epoch, .I cc.group, .I cc.node, .bool cc.up, .int .u64 cc.id.version, .I cc.id.index, .int .u64 cc.id.epoch, .int .u64 cc.amap.epoch, .slice n0 cc.amap.members.length o0] H 2 rfl ?_
 intro _ H
 refine uF 0 ?_
 refine qR 1 [.c [14, 0], .c [15]] [(3, .P Z 0), (4, .P b3 0)] ?_
 refine qG (sq 0 2) ?_
 refine uV 62 0 (H.cells 2 rfl) ?_
 refine uW 62 0 #[.I cc.kind, .int .u64 cc.client, .int .u64 cc.seq, .string d, .I cc.size, .int .u32 ((cc.sum.toNat : Nat) : Int), .int .u64 cc.version, .int .u64 cc.epoch, .I cc.group, .I cc.node, .bool cc.up, .int .u64 cc.id.version, .I cc.id.index, .int .u64 cc.id.epoch, .int .u64 cc.amap.epoch, .slice n0 cc.amap.members.length o0] H 1 rfl ?_
 intro _ H
 refine uF 0 ?_
 refine qRB (.agg #[.I cc.kind, .int .u64 cc.client, .int .u64 cc.seq, .string d, .I cc.size, .int .u32 ((cc.sum.toNat : Nat) : Int), .int .u64 cc.version, .int .u64 cc.epoch, .I cc.group, .I cc.node, .bool cc.up, .int .u64 cc.id.version, .I cc.id.index, .int .u64 cc.id.epoch, .int .u64 cc.amap.epoch, .slice n0 cc.amap.members.length o0]) Tryz.func60 (v1 (.cell 4 62) (vC (H.cells 1 rfl))) ?_
 have hcf : L0 = xs ++ cmdE cc := by simp [cmdE, a0, b0, c0, d0, e0, f0, g0, h0, i0, j0, k0, l0, m0]
 rw [hcf] at H
 have H := H.take 1 1
 exact ⟨_, rfl, _, _, ⟨_, _, _, rfl⟩, H.pick [] rfl⟩
end Go.Proofs.YtkjkmogipidkiaaGreat
