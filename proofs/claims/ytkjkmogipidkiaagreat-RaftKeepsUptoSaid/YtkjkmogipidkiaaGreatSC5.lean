import Derived.Test.YtkjkmogipidkiaaGreatSBxA
import Derived.Test.YtkjkmogipidkiaaGreatSC4
namespace Go.Proofs.YtkjkmogipidkiaaGreat
open Go.BX
def entE (x : Ent) : List (BitVec 8) := num x.index.toNat ++ (num x.term.toNat ++ (intE x.kind ++ (cmdE x.cmd ++ confE x.conf)))
def szE (x : Ent) : Prop := x.cmd.key.size ≤ 1048576 ∧ x.cmd.amap.members.length ≤ 1048576 ∧ x.conf.voters.length ≤ 1048576 ∧ x.conf.learners.length ≤ 1048576
theorem ent_ok {S : Nat → Prop} {w : World} {cs : List Value} {x : Ent} (h : entS.rep S w cs x) : (0 ≤ x.index ∧ x.index ≤ 18446744073709551615) ∧ (0 ≤ x.term ∧ x.term ≤ 18446744073709551615) ∧ (-9223372036854775808 ≤ x.kind ∧ x.kind ≤ 9223372036854775807) ∧ CmdOk x.cmd := by
 obtain ⟨_, _, rfl, a, b, c, d, _⟩ := ent_open h
 exact ⟨a, b, c, cmd_ok d⟩
theorem memsE_len : ∀ {xs : List Mem}, (∀ x ∈ xs, (-9223372036854775808 ≤ x.id ∧ x.id ≤ 9223372036854775807) ∧ (-9223372036854775808 ≤ x.weight ∧ x.weight ≤ 9223372036854775807)) → (memsE xs).length ≤ 20 * xs.length
 | [], _ => Nat.zero_le _
 | x :: r, h => by
  have h1 := h x (by simp)
  have h2 := intE_ten h1.1
  have h3 := intE_ten h1.2
  have h4 := memsE_len (xs := r) fun y hy => h y (by simp [hy])
  show (intE x.id ++ (intE x.weight ++ memsE r)).length ≤ _
  rw [List.length_append, List.length_append, List.length_cons]
  omega
theorem rep_mems {S : Nat → Prop} {w : World} {cs : List Value} {xs : List Mem} (h : (Shape.slice memS).rep S w cs xs) : ∀ x ∈ xs, (-9223372036854775808 ≤ x.id ∧ x.id ≤ 9223372036854775807) ∧ (-9223372036854775808 ≤ x.weight ∧ x.weight ≤ 9223372036854775807) := by
 intro x hx
 obtain ⟨a, c, _, _, _, hE⟩ := h
 obtain ⟨i, hi⟩ := List.mem_iff_getElem?.1 hx
 obtain ⟨b, o, es, _, _, _, hr⟩ := hE i x hi
 obtain ⟨_, d, e⟩ := mem_open hr
 exact ⟨d, e⟩
theorem cmdE_len {c : Cmd} (hc : CmdOk c) (hm : (memsE c.amap.members).length ≤ 20 * c.amap.members.length) (hl : c.amap.members.length ≤ 9223372036854775807) : (cmdE c).length ≤ c.key.size + 20 * (c.amap.members.length + 20) := by
 obtain ⟨b, _, _, d, e, _, _, f, g, a, _⟩ := hc
 have h := idE_len a
 have i := flagE_len c.up
 have j := textE_len d
 have k := intE_ten b
 have l : (num c.client.toNat).length ≤ 10 := num_ten (by omega)
 have m : (num c.seq.toNat).length ≤ 10 := num_ten (by omega)
 have n := intE_ten e
 have o : (num c.sum.toNat).length ≤ 10 := num_ten (by have := c.sum.isLt; omega)
 have p : (num c.version.toNat).length ≤ 10 := num_ten (by omega)
 have q : (num c.epoch.toNat).length ≤ 10 := num_ten (by omega)
 have r := intE_ten f
 have s := intE_ten g
 have t : (num c.amap.epoch.toNat).length ≤ 10 := num_ten (by omega)
 have u : (num c.amap.members.length).length ≤ 10 := num_ten (by omega)
 unfold cmdE mapE
 simp only [List.length_append]
 omega
set_option maxHeartbeats 4000000 in
theorem pentry_spec {S : Nat → Prop} {w : World} {O : List Nat} {bp : Nat} {xs : List (BitVec 8)} {a : Option Addr} {c : Nat} {x : Ent} {a0xconf : Option Addr} {a1xcmdamap : Option Addr} {a1xconf : Option Addr} {k0xconf : Nat} {k1xcmdamap : Nat} {k1xconf : Nat} (hx : (0 ≤ x.index ∧ x.index ≤ 18446744073709551615) ∧ (0 ≤ x.term ∧ x.term ≤ 18446744073709551615) ∧ (-9223372036854775808 ≤ x.kind ∧ x.kind ≤ 9223372036854775807) ∧ CmdOk x.cmd) (H0 : Hp w S O [(bp, .cells #[.slice a xs.length c, .I 0, .bool true, .bool false] 130 (0, 0))] [⟨Sb, 5, .slice a xs.length c, xs⟩] [Rp (Shape.slice memS) [.slice a1xcmdamap x.cmd.amap.members.length k1xcmdamap] x.cmd.amap.members, Rp (Shape.slice (Shape.int .i64)) [.slice a0xconf x.conf.voters.length k0xconf] x.conf.voters, Rp (Shape.slice (Shape.int .i64)) [.slice a1xconf x.conf.learners.length k1xconf] x.conf.learners] w) (hby : xs.length + (x.cmd.key.size + 20 * (x.cmd.amap.members.length + 30) + 10 * (x.conf.voters.length + x.conf.learners.length + 4)) ≤ 1099511627776) :
 Calls Tryz.prog 103 #[.P bp 0, .agg #[.int .u64 x.index, .int .u64 x.term, .I x.kind, .I x.cmd.kind, .int .u64 x.cmd.client, .int .u64 x.cmd.seq, .string x.cmd.key, .I x.cmd.size, .int .u32 ((x.cmd.sum.toNat : Nat) : Int), .int .u64 x.cmd.version, .int .u64 x.cmd.epoch, .I x.cmd.group, .I x.cmd.node, .bool x.cmd.up, .int .u64 x.cmd.id.version, .I x.cmd.id.index, .int .u64 x.cmd.id.epoch, .int .u64 x.cmd.amap.epoch, .slice a1xcmdamap x.cmd.amap.members.length k1xcmdamap, .slice a0xconf x.conf.voters.length k0xconf, .slice a1xconf x.conf.learners.length k1xconf]] w (Ret fun v w' => ∃ (a' : Option Addr) (c' : Nat), (∃ (t : ByteArray) (b1 : Option Addr) (d1 : Nat) (b2 : Option Addr) (d2 : Nat) (b3 : Option Addr) (d3 : Nat), v = .agg #[.int .u64 x.index, .int .u64 x.term, .I x.kind, .I x.cmd.kind, .int .u64 x.cmd.client, .int .u64 x.cmd.seq, .string t, .I x.cmd.size, .int .u32 ((x.cmd.sum.toNat : Nat) : Int), .int .u64 x.cmd.version, .int .u64 x.cmd.epoch, .I x.cmd.group, .I x.cmd.node, .bool x.cmd.up, .int .u64 x.cmd.id.version, .I x.cmd.id.index, .int .u64 x.cmd.id.epoch, .int .u64 x.cmd.amap.epoch, .slice b1 x.cmd.amap.members.length d1, .slice b2 x.conf.voters.length d2, .slice b3 x.conf.learners.length d3]) ∧ Hp w S O [(bp, .cells #[.slice a' (xs ++ entE x).length c', .I 0, .bool true, .bool false] 130 (0, 0))] [⟨Sb, 5, .slice a' (xs ++ entE x).length c', (xs ++ entE x)⟩] [] w') := by
 obtain ⟨_, _, T, N⟩ := hx
 have V := N.2.2.2.1
 have hml := Shape.slice_len (H0.rp 0 rfl)
 have hme := cmdE_len N (memsE_len (rep_mems (H0.rp 0 rfl))) hml
 have W : (num x.index.toNat).length ≤ 10 := num_ten (by omega)
 have X : (num x.term.toNat).length ≤ 10 := num_ten (by omega)
 have Y : (intE x.kind).length ≤ 10 := intE_ten T
 refine uS1 Tryz.func103 ?_
 have H := H0
 refine uR 1 [.c [0], .c [1]] ?_
 refine qG (sq 0 2) ?_
 refine uC #[.int .u64 x.index, .int .u64 x.term, .I x.kind, .I x.cmd.kind, .int .u64 x.cmd.client, .int .u64 x.cmd.seq, .string x.cmd.key, .I x.cmd.size, .int .u32 ((x.cmd.sum.toNat : Nat) : Int), .int .u64 x.cmd.version, .int .u64 x.cmd.epoch, .I x.cmd.group, .I x.cmd.node, .bool x.cmd.up, .int .u64 x.cmd.id.version, .I x.cmd.id.index, .int .u64 x.cmd.id.epoch, .int .u64 x.cmd.amap.epoch, .slice a1xcmdamap x.cmd.amap.members.length k1xcmdamap, .slice a0xconf x.conf.voters.length k0xconf, .slice a1xconf x.conf.learners.length k1xconf] 71 H ?_
 intro b1 _ H
 refine uC #[.int .u64 0, .int .u64 0, .I 0, .I 0, .int .u64 0, .int .u64 0, .string (⟨#[]⟩ : ByteArray), .I 0, .int .u32 0, .int .u64 0, .int .u64 0, .I 0, .I 0, .bool false, .int .u64 0, .I 0, .int .u64 0, .int .u64 0, .slice none 0 0, .slice none 0 0, .slice none 0 0] 71 H ?_
 intro b3 _ H
 refine uF 0 ?_
 refine uR 1 [.c [1, 0], .c [2]] ?_
 refine qG (sq 0 6) ?_
 refine uP 2 ?_
 refine uV 25 0 (H.cells 1 rfl) ?_
 have H := H.frontM 2 rfl
 refine uKS (u64_spec (x := x.index) (by omega) ((H.lend (M1 := [(bp, .cells #[.slice a xs.length c, .I 0, .bool true, .bool false] 130 (0, 0))]) (W1 := [⟨Sb, 5, .slice a xs.length c, xs⟩])).pick [] rfl) (by first | omega | (simp only [List.length_append, List.length_nil]; omega))) ?_
 rintro _ _ ⟨y, A, rfl, H'⟩
 have H := H.back (M1 := [(bp, .cells #[.slice a xs.length c, .I 0, .bool true, .bool false] 130 (0, 0))]) (W1 := [⟨Sb, 5, .slice a xs.length c, xs⟩]) H'
 have H : Hp w S O [(bp, .cells #[.slice y (xs ++ num x.index.toNat).length A, .I 0, .bool true, .bool false] 130 (0, 0)), _, _] [⟨Sb, 5, .slice y (xs ++ num x.index.toNat).length A, (xs ++ num x.index.toNat)⟩] [_, _, _] _ := H
 obtain ⟨b, m⟩ : ∃ z, z = (xs ++ num x.index.toNat) := ⟨_, rfl⟩
 rw [← m] at H
 have G := congrArg List.length m
 rw [List.length_append] at G
 refine uP 1 ?_
 refine uW 25 0 #[.int .u64 x.index, .int .u64 x.term, .I x.kind, .I x.cmd.kind, .int .u64 x.cmd.client, .int .u64 x.cmd.seq, .string x.cmd.key, .I x.cmd.size, .int .u32 ((x.cmd.sum.toNat : Nat) : Int), .int .u64 x.cmd.version, .int .u64 x.cmd.epoch, .I x.cmd.group, .I x.cmd.node, .bool x.cmd.up, .int .u64 x.cmd.id.version, .I x.cmd.id.index, .int .u64 x.cmd.id.epoch, .int .u64 x.cmd.amap.epoch, .slice a1xcmdamap x.cmd.amap.members.length k1xcmdamap, .slice a0xconf x.conf.voters.length k0xconf, .slice a1xconf x.conf.learners.length k1xconf] H 2 rfl ?_
 intro _ H
 refine uF 0 ?_
 refine uR 1 [.c [2, 0], .c [3]] ?_
 refine qG (sq 0 6) ?_
 refine uP 2 ?_
 refine uV 25 1 (H.cells 2 rfl) ?_
 refine uKS (u64_spec (x := x.term) (by omega) ((H.lend (M1 := [(bp, .cells #[.slice y b.length A, .I 0, .bool true, .bool false] 130 (0, 0))]) (W1 := [⟨Sb, 5, .slice y b.length A, b⟩])).pick [] rfl) (by first | omega | (simp only [List.length_append, List.length_nil]; omega))) ?_
 rintro _ _ ⟨g, h, rfl, H'⟩
 have H := H.back (M1 := [(bp, .cells #[.slice y b.length A, .I 0, .bool true, .bool false] 130 (0, 0))]) (W1 := [⟨Sb, 5, .slice y b.length A, b⟩]) H'
 have H : Hp w S O [(bp, .cells #[.slice g (b ++ num x.term.toNat).length h, .I 0, .bool true, .bool false] 130 (0, 0)), _, _] [⟨Sb, 5, .slice g (b ++ num x.term.toNat).length h, (b ++ num x.term.toNat)⟩] [_, _, _] _ := H
 obtain ⟨d, n⟩ : ∃ z, z = (b ++ num x.term.toNat) := ⟨_, rfl⟩
 rw [← n] at H
 have J := congrArg List.length n
 rw [List.length_append] at J
 refine uP 1 ?_
 refine uW 25 1 #[.int .u64 x.index, .int .u64 x.term, .I x.kind, .I x.cmd.kind, .int .u64 x.cmd.client, .int .u64 x.cmd.seq, .string x.cmd.key, .I x.cmd.size, .int .u32 ((x.cmd.sum.toNat : Nat) : Int), .int .u64 x.cmd.version, .int .u64 x.cmd.epoch, .I x.cmd.group, .I x.cmd.node, .bool x.cmd.up, .int .u64 x.cmd.id.version, .I x.cmd.id.index, .int .u64 x.cmd.id.epoch, .int .u64 x.cmd.amap.epoch, .slice a1xcmdamap x.cmd.amap.members.length k1xcmdamap, .slice a0xconf x.conf.voters.length k0xconf, .slice a1xconf x.conf.learners.length k1xconf] H 2 rfl ?_
 intro _ H
 refine uF 0 ?_
 refine qR 1 [.c [3, 0], .c [4]] [(0, .P bp 0), (3, .P b1 0), (4, .P b3 0)] ?_
 refine qG (sq 0 6) ?_
 refine uP 2 ?_
 refine uV 69 2 (H.cells 2 rfl) ?_
 refine uKS (int_spec (x := x.kind) (by omega) ((H.lend (M1 := [(bp, .cells #[.slice g d.length h, .I 0, .bool true, .bool false] 130 (0, 0))]) (W1 := [⟨Sb, 5, .slice g d.length h, d⟩])).pick [] rfl) (by first | omega | (simp only [List.length_append, List.length_nil]; omega))) ?_
 rintro _ _ ⟨i, j, rfl, H'⟩
 have H := H.back (M1 := [(bp, .cells #[.slice g d.length h, .I 0, .bool true, .bool false] 130 (0, 0))]) (W1 := [⟨Sb, 5, .slice g d.length h, d⟩]) H'
 have H : Hp w S O [(bp, .cells #[.slice i (d ++ intE x.kind).length j, .I 0, .bool true, .bool false] 130 (0, 0)), _, _] [⟨Sb, 5, .slice i (d ++ intE x.kind).length j, (d ++ intE x.kind)⟩] [_, _, _] _ := H
 obtain ⟨e, o⟩ : ∃ z, z = (d ++ intE x.kind) := ⟨_, rfl⟩
 rw [← o] at H
 have K := congrArg List.length o
 rw [List.length_append] at K
 refine uP 1 ?_
 refine uW 69 2 #[.int .u64 x.index, .int .u64 x.term, .I x.kind, .I x.cmd.kind, .int .u64 x.cmd.client, .int .u64 x.cmd.seq, .string x.cmd.key, .I x.cmd.size, .int .u32 ((x.cmd.sum.toNat : Nat) : Int), .int .u64 x.cmd.version, .int .u64 x.cmd.epoch, .I x.cmd.group, .I x.cmd.node, .bool x.cmd.up, .int .u64 x.cmd.id.version, .I x.cmd.id.index, .int .u64 x.cmd.id.epoch, .int .u64 x.cmd.amap.epoch, .slice a1xcmdamap x.cmd.amap.members.length k1xcmdamap, .slice a0xconf x.conf.voters.length k0xconf, .slice a1xconf x.conf.learners.length k1xconf] H 2 rfl ?_
 intro _ H
 refine uF 0 ?_
 refine uR 1 [.c [4, 0], .c [5]] ?_
 refine qG (sq 0 6) ?_
 refine uP 2 ?_
 refine uV 62 3 (H.cells 2 rfl) ?_
 refine uKS (pcmd_spec (cc := x.cmd) (by assumption) ((H.lend (M1 := [(bp, .cells #[.slice i e.length j, .I 0, .bool true, .bool false] 130 (0, 0))]) (W1 := [⟨Sb, 5, .slice i e.length j, e⟩])).pick [0] rfl) (by first | omega | (simp only [List.length_append, List.length_nil]; omega))) ?_
 rintro _ _ ⟨k, l, ⟨r, s, u, rfl⟩, H'⟩
 have H := H.back (M1 := [(bp, .cells #[.slice i e.length j, .I 0, .bool true, .bool false] 130 (0, 0))]) (W1 := [⟨Sb, 5, .slice i e.length j, e⟩]) H'
 have H : Hp w S O [(bp, .cells #[.slice k (e ++ cmdE x.cmd).length l, .I 0, .bool true, .bool false] 130 (0, 0)), _, _] [⟨Sb, 5, .slice k (e ++ cmdE x.cmd).length l, (e ++ cmdE x.cmd)⟩] [_, _, _] _ := H
 obtain ⟨f, p⟩ : ∃ z, z = (e ++ cmdE x.cmd) := ⟨_, rfl⟩
 rw [← p] at H
 have L := congrArg List.length p
 rw [List.length_append] at L
 refine uP 1 ?_
 refine uW 62 3 #[.int .u64 x.index, .int .u64 x.term, .I x.kind, .I x.cmd.kind, .int .u64 x.cmd.client, .int .u64 x.cmd.seq, .string r, .I x.cmd.size, .int .u32 ((x.cmd.sum.toNat : Nat) : Int), .int .u64 x.cmd.version, .int .u64 x.cmd.epoch, .I x.cmd.group, .I x.cmd.node, .bool x.cmd.up, .int .u64 x.cmd.id.version, .I x.cmd.id.index, .int .u64 x.cmd.id.epoch, .int .u64 x.cmd.amap.epoch, .slice s x.cmd.amap.members.length u, .slice a0xconf x.conf.voters.length k0xconf, .slice a1xconf x.conf.learners.length k1xconf] H 2 rfl ?_
 intro _ H
 refine uF 0 ?_
 refine uR 1 [.c [5, 0], .c [6]] ?_
 refine qG (sq 0 6) ?_
 refine uP 2 ?_
 refine uV 28 19 (H.cells 2 rfl) ?_
 refine uKS (pconf_spec (C := x.conf) ((H.lend (M1 := [(bp, .cells #[.slice k f.length l, .I 0, .bool true, .bool false] 130 (0, 0))]) (W1 := [⟨Sb, 5, .slice k f.length l, f⟩])).pick [1, 2] rfl) (by first | omega | (simp only [List.length_append, List.length_nil]; omega))) ?_
 rintro _ _ ⟨Q, R, ⟨B, D, E, F, rfl⟩, H'⟩
 have H := H.back (M1 := [(bp, .cells #[.slice k f.length l, .I 0, .bool true, .bool false] 130 (0, 0))]) (W1 := [⟨Sb, 5, .slice k f.length l, f⟩]) H'
 have H : Hp w S O [(bp, .cells #[.slice Q (f ++ confE x.conf).length R, .I 0, .bool true, .bool false] 130 (0, 0)), _, _] [⟨Sb, 5, .slice Q (f ++ confE x.conf).length R, (f ++ confE x.conf)⟩] [_, _, _] _ := H
 obtain ⟨U, q⟩ : ∃ z, z = (f ++ confE x.conf) := ⟨_, rfl⟩
 rw [← q] at H
 have M := congrArg List.length q
 rw [List.length_append] at M
 refine uP 1 ?_
 refine uW 28 19 #[.int .u64 x.index, .int .u64 x.term, .I x.kind, .I x.cmd.kind, .int .u64 x.cmd.client, .int .u64 x.cmd.seq, .string r, .I x.cmd.size, .int .u32 ((x.cmd.sum.toNat : Nat) : Int), .int .u64 x.cmd.version, .int .u64 x.cmd.epoch, .I x.cmd.group, .I x.cmd.node, .bool x.cmd.up, .int .u64 x.cmd.id.version, .I x.cmd.id.index, .int .u64 x.cmd.id.epoch, .int .u64 x.cmd.amap.epoch, .slice s x.cmd.amap.members.length u, .slice B x.conf.voters.length D, .slice E x.conf.learners.length F] H 2 rfl ?_
 intro _ H
 refine qF 0 [(3, .P b1 0), (4, .P b3 0)] ?_
 refine uR 1 [.c [6, 0], .c [7]] ?_
 refine qG (sq 0 2) ?_
 refine uV 71 0 (H.cells 2 rfl) ?_
 refine uW 71 0 #[.int .u64 x.index, .int .u64 x.term, .I x.kind, .I x.cmd.kind, .int .u64 x.cmd.client, .int .u64 x.cmd.seq, .string r, .I x.cmd.size, .int .u32 ((x.cmd.sum.toNat : Nat) : Int), .int .u64 x.cmd.version, .int .u64 x.cmd.epoch, .I x.cmd.group, .I x.cmd.node, .bool x.cmd.up, .int .u64 x.cmd.id.version, .I x.cmd.id.index, .int .u64 x.cmd.id.epoch, .int .u64 x.cmd.amap.epoch, .slice s x.cmd.amap.members.length u, .slice B x.conf.voters.length D, .slice E x.conf.learners.length F] H 1 rfl ?_
 intro _ H
 refine uF 0 ?_
 refine qRB (.agg #[.int .u64 x.index, .int .u64 x.term, .I x.kind, .I x.cmd.kind, .int .u64 x.cmd.client, .int .u64 x.cmd.seq, .string r, .I x.cmd.size, .int .u32 ((x.cmd.sum.toNat : Nat) : Int), .int .u64 x.cmd.version, .int .u64 x.cmd.epoch, .I x.cmd.group, .I x.cmd.node, .bool x.cmd.up, .int .u64 x.cmd.id.version, .I x.cmd.id.index, .int .u64 x.cmd.id.epoch, .int .u64 x.cmd.amap.epoch, .slice s x.cmd.amap.members.length u, .slice B x.conf.voters.length D, .slice E x.conf.learners.length F]) Tryz.func103 (v1 (.cell 4 71) (vC (H.cells 1 rfl))) ?_
 have hcf : U = xs ++ entE x := by simp [entE, m, n, o, p, q]
 rw [hcf] at H
 have H := H.take 1 1
 exact ⟨_, rfl, _, _, ⟨_, _, _, _, _, _, _, rfl⟩, H.pick [] rfl⟩
theorem putentry_spec {S : Nat → Prop} {w : World} {ys : List (BitVec 8)} {a0 : Option Addr} {c0 : Nat} (h : SB.rep S w [.slice a0 ys.length c0] ys) {x : Ent} {es : List Value} (hx : entS.rep S w es x) (hz : x.cmd.key.size ≤ 1048576 ∧ x.cmd.amap.members.length ≤ 1048576 ∧ x.conf.voters.length ≤ 1048576 ∧ x.conf.learners.length ≤ 1048576) (hby : ys.length ≤ 1048576) :
 Calls Tryz.prog 67 #[.slice a0 ys.length c0, .agg es.toArray] w (Ret fun v w' => Ext w w' ∧ Hp w S [] [] [⟨Sb, 5, v, ys ++ entE x⟩] [] w') := by
 have s := hx
 obtain ⟨_, _, rfl, _, _, _, t, u⟩ := ent_open hx
 obtain ⟨_, _, rfl, _, _, _, _, _, _, _, _, _, k, l⟩ := cmd_open t
 obtain ⟨rfl, _, _, _⟩ := cid_open k
 obtain ⟨a, b, rfl, _, i⟩ := amap_open l
 obtain ⟨d, e, f, g, rfl, m, n⟩ := conf_open u
 have z := hz
 refine uS1 Tryz.func67 ?_
 have H := Hp.startF (.rp h (.rp i (.rp m (.rp n .nil))))
 refine uR 1 [.c [0], .c [1]] ?_
 refine qG (sq 0 2) ?_
 refine uC #[.int .u64 x.index, .int .u64 x.term, .I x.kind, .I x.cmd.kind, .int .u64 x.cmd.client, .int .u64 x.cmd.seq, .string x.cmd.key, .I x.cmd.size, .int .u32 ((x.cmd.sum.toNat : Nat) : Int), .int .u64 x.cmd.version, .int .u64 x.cmd.epoch, .I x.cmd.group, .I x.cmd.node, .bool x.cmd.up, .int .u64 x.cmd.id.version, .I x.cmd.id.index, .int .u64 x.cmd.id.epoch, .int .u64 x.cmd.amap.epoch, .slice a x.cmd.amap.members.length b, .slice d x.conf.voters.length e, .slice f x.conf.learners.length g] 71 H ?_
 intro y _ H
 refine uF 1 ?_
 refine uR 1 [.c [1, 0], .c [2]] ?_
 refine qG (sq 0 3) ?_
 refine uP 1 ?_
 refine uK (writer_spec (ys := ys) (H.rp 0 rfl) (by first | omega | simp)) ?_
 rintro _ _ - ⟨r, o, p, rfl, H'⟩
 have H := H.back (M1 := []) (W1 := []) H'
 have H : Hp w S [] [(r, .cells #[.slice o ys.length p, .I 0, .bool true, .bool false] 130 (0, 0)), (y, .cells #[.int .u64 x.index, .int .u64 x.term, .I x.kind, .I x.cmd.kind, .int .u64 x.cmd.client, .int .u64 x.cmd.seq, .string x.cmd.key, .I x.cmd.size, .int .u32 ((x.cmd.sum.toNat : Nat) : Int), .int .u64 x.cmd.version, .int .u64 x.cmd.epoch, .I x.cmd.group, .I x.cmd.node, .bool x.cmd.up, .int .u64 x.cmd.id.version, .I x.cmd.id.index, .int .u64 x.cmd.id.epoch, .int .u64 x.cmd.amap.epoch, .slice a x.cmd.amap.members.length b, .slice d x.conf.voters.length e, .slice f x.conf.learners.length g] 71 (0, 0))] [⟨Sb, 5, .slice o ys.length p, ys⟩] [_, _, _, _] _ := H
 refine uF 1 ?_
 refine uR 1 [.c [2, 0], .c [3]] ?_
 refine qG (sq 0 3) ?_
 refine uP 1 ?_
 refine uV 71 0 (H.cells 1 rfl) ?_
 refine uKS (pentry_spec (x := x) (ent_ok s) ((H.lend (M1 := [(r, .cells #[.slice o ys.length p, .I 0, .bool true, .bool false] 130 (0, 0))]) (W1 := [⟨Sb, 5, .slice o ys.length p, ys⟩])).pick [1, 2, 3] rfl) (by first | omega | (simp only [List.length_append, List.length_nil]; omega))) ?_
 rintro _ _ ⟨q, j, ⟨_, _, _, _, _, _, _, rfl⟩, H'⟩
 have H := H.back (M1 := [(r, .cells #[.slice o ys.length p, .I 0, .bool true, .bool false] 130 (0, 0))]) (W1 := [⟨Sb, 5, .slice o ys.length p, ys⟩]) H'
 have H : Hp w S [] [(r, .cells #[.slice q (ys ++ entE x).length j, .I 0, .bool true, .bool false] 130 (0, 0)), _] [⟨Sb, 5, .slice q (ys ++ entE x).length j, (ys ++ entE x)⟩] [_, _, _, _] _ := H
 refine uF 0 ?_
 refine uR 1 [.c [3, 0], .c [4]] ?_
 refine qG (sq 0 5) ?_
 refine uP 3 ?_
 refine uV 29 0 (H.cells 0 rfl) ?_
 refine qF 1 [(4, .slice q (ys ++ entE x).length j)] ?_
 refine qT (.slice q (ys ++ entE x).length j) Tryz.func67 ?_
 have H := H.drop (M' := []) (W' := [⟨Sb, 5, .slice q (ys ++ entE x).length j, (ys ++ entE x)⟩]) (List.nil_sublist _) (List.Sublist.refl _)
 exact ⟨_, rfl, H.done, H.pick [] rfl⟩
end Go.Proofs.YtkjkmogipidkiaaGreat
