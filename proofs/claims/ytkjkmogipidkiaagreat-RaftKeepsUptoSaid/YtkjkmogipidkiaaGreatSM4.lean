import Derived.Test.YtkjkmogipidkiaaGreatSBxA
import Derived.Test.YtkjkmogipidkiaaGreatSM3
namespace Go.Proofs.YtkjkmogipidkiaaGreat
open Go.BX
def askM (x : Msg) (ix lt id v : Int) : Msg := { x with index := ix, logTerm := lt, to := v, frm := id }
def askL (x : Msg) (ix lt id : Int) (vs : List Int) : List Msg := (vs.filter fun v => decide (v ≠ id)).map (askM x ix lt id)
theorem askL_step {x : Msg} {ix lt id : Int} {vs : List Int} {k : Nat} (hk : k < vs.length) : askL x ix lt id (vs.take (k + 1)) = if vs[k] ≠ id then askL x ix lt id (vs.take k) ++ [askM x ix lt id vs[k]] else askL x ix lt id (vs.take k) := by
 unfold askL
 rw [List.take_succ_eq_append_getElem hk, List.filter_append, List.map_append]
 by_cases h : vs[k] = id <;> simp [h]
theorem askL_len {x : Msg} {ix lt id : Int} {vs : List Int} : (askL x ix lt id vs).length ≤ vs.length := by
 unfold askL
 rw [List.length_map]
 exact List.length_filter_le _ _
theorem askM_rng {x : Msg} {ix lt v : Int} (hx : MsgR x) (h1 : 0 ≤ ix ∧ ix ≤ 18446744073709551615) (h2 : 0 ≤ lt ∧ lt ≤ 18446744073709551615) (h3 : -9223372036854775808 ≤ v ∧ v ≤ 9223372036854775807) : MsgR { x with index := ix, logTerm := lt, to := v } := by
 unfold MsgR at *
 simp only [] at *
 omega
set_option maxHeartbeats 4000000 in
theorem ask_spec {S : Nat → Prop} {w : World} {O : List Nat} {mb : Nat} {ce1 : Value} {ce2 : Value} {ce3 : Value} {ce4 : Value} {ce9 : Value} {ce11 : Value} {ce12 : Value} {ce13 : Value} {ce14 : Value} {ce15 : Value} {ce16 : Value} {ce17 : Value} {ce18 : Value} {ce19 : Value} {ce20 : Value} {ce21 : Value} {ce22 : Value} {ce23 : Value} {ce24 : Value} {ce26 : Value} {ce27 : Value} {ce28 : Value} {ce29 : Value} {ce30 : Value} {ce31 : Value} {id bs bq : Int} {ms : List Msg} {am : Option Addr} {km : Nat} {x : Msg} {a0xconf : Option Addr} {a10x : Option Addr} {a13x : Option Addr} {a19x : Option Addr} {a1xconf : Option Addr} {k0xconf : Nat} {k10x : Nat} {k13x : Nat} {k19x : Nat} {k1xconf : Nat} {C : Conf} {l : List Ent} {al av aw : Option Addr} {kl kv kw : Nat} (hno : ∀ e ∈ l, e.kind ≠ 2) (hsm : C.voters.length ≤ 1048576) (hxr : MsgR x) (hid : 1 ≤ id ∧ id ≤ 32) (hms : ms.length + C.voters.length ≤ 1000) (hl1 : 0 ≤ (lastL l bs bq).1 ∧ (lastL l bs bq).1 ≤ 18446744073709551615) (hl2 : 0 ≤ (lastL l bs bq).2 ∧ (lastL l bs bq).2 ≤ 18446744073709551615) (H0 : Hp w S O [(mb, .cells #[.I id, ce1, ce2, ce3, ce4, .int .u64 bs, .int .u64 bq, .slice av C.voters.length kv, .slice aw C.learners.length kw, ce9, .slice al l.length kl, ce11, ce12, ce13, ce14, ce15, ce16, ce17, ce18, ce19, ce20, ce21, ce22, ce23, ce24, .slice am ms.length km, ce26, ce27, ce28, ce29, ce30, ce31] 99 (0, 0))] [⟨entS, 71, .slice al l.length kl, l⟩, ⟨msgS, 56, .slice am ms.length km, ms⟩] [Rp (Shape.slice (Shape.int .i64)) [.slice av C.voters.length kv] C.voters, Rp (Shape.slice (Shape.int .i64)) [.slice aw C.learners.length kw] C.learners, Rp (Shape.slice entS) [.slice a10x x.entries.length k10x] x.entries, Rp (Shape.slice (Shape.int .i64)) [.slice a0xconf x.conf.voters.length k0xconf] x.conf.voters, Rp (Shape.slice (Shape.int .i64)) [.slice a1xconf x.conf.learners.length k1xconf] x.conf.learners, Rp SB [.slice a13x x.data.length k13x] x.data, Rp (Shape.slice Shape.str) [.slice a19x x.names.length k19x] x.names] w) :
 Calls Tryz.prog 107 #[.P mb 0, .agg #[.I x.kind, .I x.frm, .I x.to, .int .u64 x.term, .int .u64 x.index, .int .u64 x.logTerm, .int .u64 x.commit, .int .u64 x.ctx, .bool x.ok, .bool x.force, .slice a10x x.entries.length k10x, .slice a0xconf x.conf.voters.length k0xconf, .slice a1xconf x.conf.learners.length k1xconf, .int .u64 x.head.id.version, .I x.head.id.index, .int .u64 x.head.id.epoch, .I x.head.kk, .I x.head.nn, .I x.head.size, .int .u32 ((x.head.sum.toNat : Nat) : Int), .slice a13x x.data.length k13x, .int .u64 x.client, .int .u64 x.seq, .I x.op, .string x.key, .I x.code, .slice a19x x.names.length k19x]] w (Ret fun v w' => ∃ (a' : Option Addr) (c' : Nat), v = .tuple #[] ∧ Hp w S O [(mb, .cells #[.I id, ce1, ce2, ce3, ce4, .int .u64 bs, .int .u64 bq, .slice av C.voters.length kv, .slice aw C.learners.length kw, ce9, .slice al l.length kl, ce11, ce12, ce13, ce14, ce15, ce16, ce17, ce18, ce19, ce20, ce21, ce22, ce23, ce24, .slice a' ((ms ++ (askL x (lastL l bs bq).1 (lastL l bs bq).2 id C.voters)).length) c', ce26, ce27, ce28, ce29, ce30, ce31] 99 (0, 0))] [⟨entS, 71, .slice al l.length kl, l⟩, ⟨msgS, 56, .slice a' ((ms ++ (askL x (lastL l bs bq).1 (lastL l bs bq).2 id C.voters)).length) c', (ms ++ (askL x (lastL l bs bq).1 (lastL l bs bq).2 id C.voters))⟩] [] w') := by
 have q := hxr
 obtain ⟨_, _, _, _, _, _, _, _, _, _, _, _, _, _, _, _, _, _, _⟩ := hxr
 refine uS1 Tryz.func107 ?_
 have H := H0
 refine uR 1 [.c [0], .c [1]] ?_
 refine qG (sq 0 1) ?_
 refine uC #[.I x.kind, .I x.frm, .I x.to, .int .u64 x.term, .int .u64 x.index, .int .u64 x.logTerm, .int .u64 x.commit, .int .u64 x.ctx, .bool x.ok, .bool x.force, .slice a10x x.entries.length k10x, .slice a0xconf x.conf.voters.length k0xconf, .slice a1xconf x.conf.learners.length k1xconf, .int .u64 x.head.id.version, .I x.head.id.index, .int .u64 x.head.id.epoch, .I x.head.kk, .I x.head.nn, .I x.head.size, .int .u32 ((x.head.sum.toNat : Nat) : Int), .slice a13x x.data.length k13x, .int .u64 x.client, .int .u64 x.seq, .I x.op, .string x.key, .I x.code, .slice a19x x.names.length k19x] 56 H ?_
 intro o _ H
 refine uF 0 ?_
 refine uR 1 [.c [1, 0], .c [2]] ?_
 refine qG (sq 0 11) ?_
 refine uP 3 ?_
 refine uK (last0_spec (S := fun _ => True) (l := l) (Fc.pre (xs := [.I id, ce1, ce2, ce3, ce4, .int .u64 bs, .int .u64 bq, .slice av C.voters.length kv, .slice aw C.learners.length kw, ce9, .slice al l.length kl, ce11, ce12, ce13, ce14, ce15, ce16, ce17, ce18, ce19, ce20]) (ys := [ce21, ce22, ce23, ce24, .slice am ms.length km, ce26, ce27, ce28, ce29, ce30, ce31]) (by simp) (H.viewM 1 rfl (by simp))) (H.view 0 rfl)) ?_
 rintro _ _ s rfl
 have H := H.ext s
 refine uP 4 ?_
 refine uW 25 4 #[.I x.kind, .I x.frm, .I x.to, .int .u64 x.term, .int .u64 ((lastL l bs bq).1), .int .u64 x.logTerm, .int .u64 x.commit, .int .u64 x.ctx, .bool x.ok, .bool x.force, .slice a10x x.entries.length k10x, .slice a0xconf x.conf.voters.length k0xconf, .slice a1xconf x.conf.learners.length k1xconf, .int .u64 x.head.id.version, .I x.head.id.index, .int .u64 x.head.id.epoch, .I x.head.kk, .I x.head.nn, .I x.head.size, .int .u32 ((x.head.sum.toNat : Nat) : Int), .slice a13x x.data.length k13x, .int .u64 x.client, .int .u64 x.seq, .I x.op, .string x.key, .I x.code, .slice a19x x.names.length k19x] H 0 rfl ?_
 intro _ H
 refine uP 1 ?_
 refine uW 25 5 #[.I x.kind, .I x.frm, .I x.to, .int .u64 x.term, .int .u64 ((lastL l bs bq).1), .int .u64 ((lastL l bs bq).2), .int .u64 x.commit, .int .u64 x.ctx, .bool x.ok, .bool x.force, .slice a10x x.entries.length k10x, .slice a0xconf x.conf.voters.length k0xconf, .slice a1xconf x.conf.learners.length k1xconf, .int .u64 x.head.id.version, .I x.head.id.index, .int .u64 x.head.id.epoch, .I x.head.kk, .I x.head.nn, .I x.head.size, .int .u32 ((x.head.sum.toNat : Nat) : Int), .slice a13x x.data.length k13x, .int .u64 x.client, .int .u64 x.seq, .I x.op, .string x.key, .I x.code, .slice a19x x.names.length k19x] H 0 rfl ?_
 intro _ H
 refine uF 0 ?_
 refine uR 1 [.c [2, 0], .c [3]] ?_
 refine qG (sq 0 7) ?_
 refine uP 3 ?_
 refine uK (conf0_spec (S := fun _ => True) (l := l) (Fc.pre (xs := [.I id, ce1, ce2, ce3, ce4, .int .u64 bs, .int .u64 bq, .slice av C.voters.length kv, .slice aw C.learners.length kw, ce9, .slice al l.length kl, ce11, ce12, ce13, ce14, ce15, ce16, ce17, ce18, ce19, ce20]) (ys := [ce21, ce22, ce23, ce24, .slice am ms.length km, ce26, ce27, ce28, ce29, ce30, ce31]) (by simp) (H.viewM 1 rfl (by simp))) (H.view 0 rfl) (by first | assumption | (intro e he; cases he))) ?_
 rintro _ _ t rfl
 have H := H.ext t
 refine uF 3 ?_
 refine qR 1 [.c [3, 0], .b 0] [(0, .P mb 0), (3, .P o 0), (19, .slice av C.voters.length kv), (20, .I ((C.voters.length : Nat) : Int)), (21, .I 0)] ?_
 refine uL (α := Nat × List Msg × Option Addr × Nat × Int) (g := 107) (p := [3, 0, 0]) (fun (k, a, f, h, tv) => [(0, .P mb 0), (3, .P o 0), (19, .slice av C.voters.length kv), (20, .I ((C.voters.length : Nat) : Int)), (21, .I k)]) (fun (k, a, f, h, tv) w' => Hp w S O [(o, .cells #[.I x.kind, .I x.frm, .I tv, .int .u64 x.term, .int .u64 ((lastL l bs bq).1), .int .u64 ((lastL l bs bq).2), .int .u64 x.commit, .int .u64 x.ctx, .bool x.ok, .bool x.force, .slice a10x x.entries.length k10x, .slice a0xconf x.conf.voters.length k0xconf, .slice a1xconf x.conf.learners.length k1xconf, .int .u64 x.head.id.version, .I x.head.id.index, .int .u64 x.head.id.epoch, .I x.head.kk, .I x.head.nn, .I x.head.size, .int .u32 ((x.head.sum.toNat : Nat) : Int), .slice a13x x.data.length k13x, .int .u64 x.client, .int .u64 x.seq, .I x.op, .string x.key, .I x.code, .slice a19x x.names.length k19x] 56 (0, 0)), (mb, .cells #[.I id, ce1, ce2, ce3, ce4, .int .u64 bs, .int .u64 bq, .slice av C.voters.length kv, .slice aw C.learners.length kw, ce9, .slice al l.length kl, ce11, ce12, ce13, ce14, ce15, ce16, ce17, ce18, ce19, ce20, ce21, ce22, ce23, ce24, .slice f a.length h, ce26, ce27, ce28, ce29, ce30, ce31] 99 (0, 0))] [⟨entS, 71, .slice al l.length kl, l⟩, ⟨msgS, 56, .slice f a.length h, a⟩] [Rp (Shape.slice (Shape.int .i64)) [.slice av C.voters.length kv] C.voters, Rp (Shape.slice (Shape.int .i64)) [.slice aw C.learners.length kw] C.learners, Rp (Shape.slice entS) [.slice a10x x.entries.length k10x] x.entries, Rp (Shape.slice (Shape.int .i64)) [.slice a0xconf x.conf.voters.length k0xconf] x.conf.voters, Rp (Shape.slice (Shape.int .i64)) [.slice a1xconf x.conf.learners.length k1xconf] x.conf.learners, Rp SB [.slice a13x x.data.length k13x] x.data, Rp (Shape.slice Shape.str) [.slice a19x x.names.length k19x] x.names] w' ∧ k ≤ C.voters.length ∧ a = ms ++ (askL x (lastL l bs bq).1 (lastL l bs bq).2 id (C.voters.take k)) ∧ (-9223372036854775808 ≤ tv ∧ tv ≤ 9223372036854775807)) (fun (k, a, f, h, tv) => C.voters.length - k) (0, ms, am, km, x.to) ⟨H, Nat.zero_le _, by simp [askL], by omega⟩ ?_
 rintro ⟨k, a, f, h, tv⟩ _ ⟨H, d⟩ i
 have hal : a.length ≤ ms.length + k := by
  rw [d.2.1, List.length_append]
  have := askL_len (x := x) (ix := (lastL l bs bq).1) (lt := (lastL l bs bq).2) (id := id) (vs := C.voters.take k)
  rw [List.length_take] at this
  omega
 refine uR 3 [.c [3, 0, 0, 1, 0], .c [3, 0, 0, 2], .l [3, 0, 0], .b 0] ?_
 refine qD (((k : Int) : Int) < ((C.voters.length : Nat) : Int)) (fun u => ?_) (fun u => ?_)
 ·
  refine uR 4 [.c [3, 0, 0, 2, 0, 0, 0], .c [3, 0, 0, 2, 0, 0, 1], .b 1, .c [3, 0, 0, 3], .l [3, 0, 0], .b 0] ?_
  refine qG (sq 0 3) ?_
  have r : k < C.voters.length := by omega
  refine uX 26 (k : Int) H 0 rfl k (by omega) (List.getElem?_eq_getElem r) ?_
  intro _ _ _ j H
  have z := Shape.i64_bd j
  obtain ⟨rfl, -⟩ := j
  refine uV 3 0 (H.fc 0 rfl) ?_
  refine uF 1 ?_
  refine uR 1 [.c [3, 0, 0, 2, 0, 0, 1, 0], .c [3, 0, 0, 2, 0, 0, 2], .b 1, .c [3, 0, 0, 3], .l [3, 0, 0], .b 0] ?_
  have H := H.pick [1, 2, 3, 4, 5, 6, 7] rfl
  refine qG (sq 0 8) ?_
  refine uP 6 ?_
  refine uV 3 0 (H.cells 1 rfl) ?_
  refine uF 1 ?_
  refine qN (C.voters[k]) id (fun y => ?_) (fun y => ?_)
  ·
   refine uR 1 [.c [3, 0, 0, 2, 0, 0, 2, 0, 0], .c [3, 0, 0, 2, 0, 0, 2, 0, 1], .b 1, .c [3, 0, 0, 3], .l [3, 0, 0], .b 0] ?_
   refine qG (sq 0 3) ?_
   refine uP 2 ?_
   refine uW 3 2 #[.I x.kind, .I x.frm, .I (C.voters[k]), .int .u64 x.term, .int .u64 ((lastL l bs bq).1), .int .u64 ((lastL l bs bq).2), .int .u64 x.commit, .int .u64 x.ctx, .bool x.ok, .bool x.force, .slice a10x x.entries.length k10x, .slice a0xconf x.conf.voters.length k0xconf, .slice a1xconf x.conf.learners.length k1xconf, .int .u64 x.head.id.version, .I x.head.id.index, .int .u64 x.head.id.epoch, .I x.head.kk, .I x.head.nn, .I x.head.size, .int .u32 ((x.head.sum.toNat : Nat) : Int), .slice a13x x.data.length k13x, .int .u64 x.client, .int .u64 x.seq, .I x.op, .string x.key, .I x.code, .slice a19x x.names.length k19x] H 0 rfl ?_
   intro _ H
   refine uF 0 ?_
   refine qG (sq 0 3) ?_
   refine uP 1 ?_
   refine uV 56 0 (H.cells 0 rfl) ?_
   have H := H.frontM 1 rfl
   have H := H.frontW 1 rfl
   refine uKS (send_spec (x := ⟨x.kind, x.frm, C.voters[k], x.term, (lastL l bs bq).1, (lastL l bs bq).2, x.commit, x.ctx, x.ok, x.force, x.entries, x.conf, x.head, x.data, x.client, x.seq, x.op, x.key, x.code, x.names⟩) (askM_rng q hl1 hl2 (by omega)) (by omega) (by first | omega | (simp only [List.length_append, List.length_cons, List.length_nil]; omega)) ((H.lend (M1 := [(mb, .cells #[.I id, ce1, ce2, ce3, ce4, .int .u64 bs, .int .u64 bq, .slice av C.voters.length kv, .slice aw C.learners.length kw, ce9, .slice al l.length kl, ce11, ce12, ce13, ce14, ce15, ce16, ce17, ce18, ce19, ce20, ce21, ce22, ce23, ce24, .slice f a.length h, ce26, ce27, ce28, ce29, ce30, ce31] 99 (0, 0))]) (W1 := [⟨msgS, 56, .slice f a.length h, a⟩])).pick [2, 3, 4, 5, 6] rfl)) ?_
   rintro _ _ ⟨m, n, rfl, H'⟩
   have H := H.back (M1 := [(mb, .cells #[.I id, ce1, ce2, ce3, ce4, .int .u64 bs, .int .u64 bq, .slice av C.voters.length kv, .slice aw C.learners.length kw, ce9, .slice al l.length kl, ce11, ce12, ce13, ce14, ce15, ce16, ce17, ce18, ce19, ce20, ce21, ce22, ce23, ce24, .slice f a.length h, ce26, ce27, ce28, ce29, ce30, ce31] 99 (0, 0))]) (W1 := [⟨msgS, 56, .slice f a.length h, a⟩]) H'
   have H : Hp w S O [(mb, .cells #[.I id, ce1, ce2, ce3, ce4, .int .u64 bs, .int .u64 bq, .slice av C.voters.length kv, .slice aw C.learners.length kw, ce9, .slice al l.length kl, ce11, ce12, ce13, ce14, ce15, ce16, ce17, ce18, ce19, ce20, ce21, ce22, ce23, ce24, .slice m ((a ++ [sentM (⟨x.kind, x.frm, C.voters[k], x.term, (lastL l bs bq).1, (lastL l bs bq).2, x.commit, x.ctx, x.ok, x.force, x.entries, x.conf, x.head, x.data, x.client, x.seq, x.op, x.key, x.code, x.names⟩) id]).length) n, ce26, ce27, ce28, ce29, ce30, ce31] 99 (0, 0)), _] [⟨msgS, 56, .slice m ((a ++ [sentM (⟨x.kind, x.frm, C.voters[k], x.term, (lastL l bs bq).1, (lastL l bs bq).2, x.commit, x.ctx, x.ok, x.force, x.entries, x.conf, x.head, x.data, x.client, x.seq, x.op, x.key, x.code, x.names⟩) id]).length) n, (a ++ [sentM (⟨x.kind, x.frm, C.voters[k], x.term, (lastL l bs bq).1, (lastL l bs bq).2, x.commit, x.ctx, x.ok, x.force, x.entries, x.conf, x.head, x.data, x.client, x.seq, x.op, x.key, x.code, x.names⟩) id])⟩, _] [_, _, _, _, _, _, _] _ := H
   refine qF 0 [(0, .P mb 0), (3, .P o 0), (19, .slice av C.voters.length kv), (20, .I ((C.voters.length : Nat) : Int)), (21, .I k)] ?_
   refine uR 1 [.c [3, 0, 0, 3], .l [3, 0, 0], .b 0] ?_
   refine qG (sq 0 2) ?_
   refine uI ((k : Int) + 1) ?_
   refine uF 1 ?_
   have H := H.frontM 1 rfl
   have H := H.frontW 1 rfl
   exact uB (i (k + 1, (a ++ [sentM (⟨x.kind, x.frm, C.voters[k], x.term, (lastL l bs bq).1, (lastL l bs bq).2, x.commit, x.ctx, x.ok, x.force, x.entries, x.conf, x.head, x.data, x.client, x.seq, x.op, x.key, x.code, x.names⟩) id]), m, n, C.voters[k]) _ ⟨H, by omega, by rw [askL_step (by omega), d.2.1]; first | (rw [if_pos (by omega), List.append_assoc]; rfl) | rw [if_neg (by omega)], by omega⟩ (by first | omega | (simp only []; omega)))
  ·
   refine uR 2 [.c [3, 0, 0, 3], .l [3, 0, 0], .b 0] ?_
   refine qG (sq 0 2) ?_
   refine uI ((k : Int) + 1) ?_
   refine uF 1 ?_
   exact uB (i (k + 1, a, f, h, tv) _ ⟨H, by omega, by rw [askL_step (by omega), d.2.1]; first | (rw [if_pos (by omega), List.append_assoc]; rfl) | rw [if_neg (by omega)], by omega⟩ (by first | omega | (simp only []; omega)))
 ·
  refine uR 1 [] ?_
  refine WK.fin (v := .tuple #[]) Tryz.func107 (by as_aux_lemma => kernel_rfl) ?_
  have H := H.frontM 1 rfl
  have hmF : a = ms ++ (askL x (lastL l bs bq).1 (lastL l bs bq).2 id C.voters) := by rw [d.2.1, List.take_of_length_le (by omega)]
  subst hmF
  have H := H.take 1 2
  exact ⟨_, rfl, _, _, rfl, H.pick [] rfl⟩
end Go.Proofs.YtkjkmogipidkiaaGreat
