import Derived.Test.YtkjkmogipidkiaaGreatSBxA
import Derived.Test.YtkjkmogipidkiaaGreatSM6
import Derived.Test.YtkjkmogipidkiaaGreatSBxB
namespace Go.Proofs.YtkjkmogipidkiaaGreat
open Go.BX
def addE (e : Ent) (ix term : Int) : Ent := { e with index := ix, term := term }
def bump1 (id ix : Int) (p : Peer) : Peer := if p.id = id then { p with next := ix + 1, mat := ix } else p
def bumps (id ix : Int) (ps : List Peer) (k : Nat) : List Peer := (ps.take k).map (bump1 id ix) ++ ps.drop k
theorem bumps_len (id ix : Int) (ps : List Peer) {k : Nat} (h : k ≤ ps.length) : (bumps id ix ps k).length = ps.length := by
 unfold bumps
 rw [List.length_append, List.length_map, List.length_take, List.length_drop]; omega
theorem bumps_at {id ix : Int} {ps : List Peer} {k : Nat} (h : k < ps.length) (h' : k < (bumps id ix ps k).length) : (bumps id ix ps k)[k] = ps[k] := by
 apply Option.some.inj
 rw [← List.getElem?_eq_getElem, ← List.getElem?_eq_getElem]
 unfold bumps
 rw [List.getElem?_append_right (by rw [List.length_map, List.length_take]; omega), List.length_map, List.length_take, List.getElem?_drop]
 congr 1; omega
theorem bumps_step {id ix : Int} {ps : List Peer} {k : Nat} (h : k < ps.length) : bumps id ix ps (k + 1) = (ps.take k).map (bump1 id ix) ++ bump1 id ix ps[k] :: ps.drop (k + 1) := by
 unfold bumps
 rw [List.take_succ_eq_append_getElem h, List.map_append, List.append_assoc]; rfl
theorem bumps_set {id ix : Int} {ps : List Peer} {k : Nat} (h : k < ps.length) (y : Peer) : (bumps id ix ps k).set k y = (ps.take k).map (bump1 id ix) ++ y :: ps.drop (k + 1) := by
 unfold bumps
 rw [List.set_append_right _ _ (by rw [List.length_map, List.length_take]; omega), List.length_map, List.length_take, Nat.min_eq_left (by omega), Nat.sub_self, List.drop_eq_getElem_cons h]; rfl
theorem bumps_yes {id ix : Int} {ps : List Peer} {k : Nat} (h : k < ps.length) (hi : ps[k].id = id) (y : Peer) : ((bumps id ix ps k).set k y).set k { ps[k] with mat := ix, next := ix + 1 } = bumps id ix ps (k + 1) := by
 rw [List.set_set, bumps_set h, bumps_step h, bump1, if_pos hi]
theorem bumps_no {id ix : Int} {ps : List Peer} {k : Nat} (h : k < ps.length) (hi : ps[k].id ≠ id) : bumps id ix ps k = bumps id ix ps (k + 1) := by
 rw [bumps_step h, bump1, if_neg hi]
 unfold bumps
 rw [List.drop_eq_getElem_cons h]
theorem bumps_all (id ix : Int) (ps : List Peer) : bumps id ix ps ps.length = ps.map (bump1 id ix) := by
 unfold bumps
 rw [List.take_length, List.drop_length, List.append_nil]
theorem peer_mat {S : Nat → Prop} {w : World} {es : List Value} {p : Peer} {v : Int} (hv : 0 ≤ v ∧ v ≤ 18446744073709551615) (h : peerS.rep S w es p) : peerS.rep S w (es.set 2 (.int .u64 v)) { p with mat := v } := by
 obtain ⟨rfl, a, b, _⟩ := peer_open h
 exact peer_mk (l0 := [_]) (l1 := [_]) (l2 := [_]) (l3 := [_]) ⟨rfl, a⟩ ⟨rfl, b⟩ ⟨rfl, hv⟩ rfl
theorem peer_next {S : Nat → Prop} {w : World} {es : List Value} {p : Peer} {v : Int} (hv : 0 ≤ v ∧ v ≤ 18446744073709551615) (h : peerS.rep S w es p) : peerS.rep S w (es.set 1 (.int .u64 v)) { p with next := v } := by
 obtain ⟨rfl, a, _, b⟩ := peer_open h
 exact peer_mk (l0 := [_]) (l1 := [_]) (l2 := [_]) (l3 := [_]) ⟨rfl, a⟩ ⟨rfl, hv⟩ ⟨rfl, b⟩ rfl
def EntR (e : Ent) : Prop := (0 ≤ e.index ∧ e.index ≤ 18446744073709551615) ∧ (0 ≤ e.term ∧ e.term ≤ 18446744073709551615) ∧ ((-9223372036854775808) ≤ e.kind ∧ e.kind ≤ 9223372036854775807) ∧ ((-9223372036854775808) ≤ e.cmd.kind ∧ e.cmd.kind ≤ 9223372036854775807) ∧ (0 ≤ e.cmd.client ∧ e.cmd.client ≤ 18446744073709551615) ∧ (0 ≤ e.cmd.seq ∧ e.cmd.seq ≤ 18446744073709551615) ∧ e.cmd.key.size ≤ maxLen ∧ ((-9223372036854775808) ≤ e.cmd.size ∧ e.cmd.size ≤ 9223372036854775807) ∧ (0 ≤ e.cmd.version ∧ e.cmd.version ≤ 18446744073709551615) ∧ (0 ≤ e.cmd.epoch ∧ e.cmd.epoch ≤ 18446744073709551615) ∧ ((-9223372036854775808) ≤ e.cmd.group ∧ e.cmd.group ≤ 9223372036854775807) ∧ ((-9223372036854775808) ≤ e.cmd.node ∧ e.cmd.node ≤ 9223372036854775807) ∧ (0 ≤ e.cmd.id.version ∧ e.cmd.id.version ≤ 18446744073709551615) ∧ ((-9223372036854775808) ≤ e.cmd.id.index ∧ e.cmd.id.index ≤ 9223372036854775807) ∧ (0 ≤ e.cmd.id.epoch ∧ e.cmd.id.epoch ≤ 18446744073709551615) ∧ (0 ≤ e.cmd.amap.epoch ∧ e.cmd.amap.epoch ≤ 18446744073709551615)
set_option maxHeartbeats 4000000 in
theorem add_spec {S : Nat → Prop} {w : World} {O : List Nat} {mb : Nat} {ce1 : Value} {ce2 : Value} {ce4 : Value} {ce9 : Value} {ce11 : Value} {ce12 : Value} {ce13 : Value} {ce14 : Value} {ce15 : Value} {ce16 : Value} {ce18 : Value} {ce19 : Value} {ce20 : Value} {ce21 : Value} {ce22 : Value} {ce24 : Value} {ce25 : Value} {ce26 : Value} {ce27 : Value} {ce28 : Value} {ce29 : Value} {ce30 : Value} {ce31 : Value} {id term bs bq : Int} {l ds : List Ent} {ps : List Peer} {al ap ad av aw : Option Addr} {kl kp pn kd vn kv wn kw : Nat} {e : Ent} {a0econf : Option Addr} {a1ecmdamap : Option Addr} {a1econf : Option Addr} {k0econf : Nat} {k1ecmdamap : Nat} {k1econf : Nat} (her : EntR e) (hid : 1 ≤ id ∧ id ≤ 32) (hte : 0 ≤ term ∧ term ≤ 4611686018427387904) (hl : l.length ≤ 1000000) (hd : ds.length ≤ 1000000) (hpn : pn = ps.length) (hps : ps.length ≤ 2097152) (hl1 : 0 ≤ (lastL l bs bq).1 ∧ (lastL l bs bq).1 ≤ 4611686018427387904) (hl2 : 0 ≤ (lastL l bs bq).2 ∧ (lastL l bs bq).2 ≤ 18446744073709551615) (H0 : Hp w S O [(mb, .cells #[.I id, ce1, ce2, .int .u64 term, ce4, .int .u64 bs, .int .u64 bq, .slice av vn kv, .slice aw wn kw, ce9, .slice al l.length kl, ce11, ce12, ce13, ce14, ce15, ce16, .slice ap pn kp, ce18, ce19, ce20, ce21, ce22, .slice ad ds.length kd, ce24, ce25, ce26, ce27, ce28, ce29, ce30, ce31] 99 (0, 0))] [⟨entS, 71, .slice al l.length kl, l⟩, ⟨peerS, 123, .slice ap pn kp, ps⟩, ⟨entS, 71, .slice ad ds.length kd, ds⟩] [Rp (Shape.slice memS) [.slice a1ecmdamap e.cmd.amap.members.length k1ecmdamap] e.cmd.amap.members, Rp (Shape.slice (Shape.int .i64)) [.slice a0econf e.conf.voters.length k0econf] e.conf.voters, Rp (Shape.slice (Shape.int .i64)) [.slice a1econf e.conf.learners.length k1econf] e.conf.learners] w) :
 Calls Tryz.prog 87 #[.P mb 0, .agg #[.int .u64 e.index, .int .u64 e.term, .I e.kind, .I e.cmd.kind, .int .u64 e.cmd.client, .int .u64 e.cmd.seq, .string e.cmd.key, .I e.cmd.size, .int .u32 ((e.cmd.sum.toNat : Nat) : Int), .int .u64 e.cmd.version, .int .u64 e.cmd.epoch, .I e.cmd.group, .I e.cmd.node, .bool e.cmd.up, .int .u64 e.cmd.id.version, .I e.cmd.id.index, .int .u64 e.cmd.id.epoch, .int .u64 e.cmd.amap.epoch, .slice a1ecmdamap e.cmd.amap.members.length k1ecmdamap, .slice a0econf e.conf.voters.length k0econf, .slice a1econf e.conf.learners.length k1econf]] w (Ret fun v w' => ∃ (al' : Option Addr) (cl' : Nat) (ad' : Option Addr) (cd' : Nat), v = .tuple #[] ∧ Hp w S O [(mb, .cells #[.I id, ce1, ce2, .int .u64 term, ce4, .int .u64 bs, .int .u64 bq, .slice av vn kv, .slice aw wn kw, ce9, .slice al' ((l ++ [(addE e ((lastL l bs bq).1 + 1) term)]).length) cl', ce11, ce12, ce13, ce14, ce15, ce16, .slice ap pn kp, ce18, ce19, ce20, ce21, ce22, .slice ad' ((ds ++ [(addE e ((lastL l bs bq).1 + 1) term)]).length) cd', ce24, ce25, ce26, ce27, ce28, ce29, ce30, ce31] 99 (0, 0))] [⟨entS, 71, .slice al' ((l ++ [(addE e ((lastL l bs bq).1 + 1) term)]).length) cl', (l ++ [(addE e ((lastL l bs bq).1 + 1) term)])⟩, ⟨peerS, 123, .slice ap pn kp, (ps.map (bump1 id ((lastL l bs bq).1 + 1)))⟩, ⟨entS, 71, .slice ad' ((ds ++ [(addE e ((lastL l bs bq).1 + 1) term)]).length) cd', (ds ++ [(addE e ((lastL l bs bq).1 + 1) term)])⟩] [] w') := by
 obtain ⟨_, _, _, _, _, _, u, _, _, _, _, _, _, _, _, _⟩ := her
 refine uS1 Tryz.func87 ?_
 have H := H0
 refine uR 1 [.c [0], .c [1]] ?_
 refine qG (sq 0 1) ?_
 refine uC #[.int .u64 e.index, .int .u64 e.term, .I e.kind, .I e.cmd.kind, .int .u64 e.cmd.client, .int .u64 e.cmd.seq, .string e.cmd.key, .I e.cmd.size, .int .u32 ((e.cmd.sum.toNat : Nat) : Int), .int .u64 e.cmd.version, .int .u64 e.cmd.epoch, .I e.cmd.group, .I e.cmd.node, .bool e.cmd.up, .int .u64 e.cmd.id.version, .I e.cmd.id.index, .int .u64 e.cmd.id.epoch, .int .u64 e.cmd.amap.epoch, .slice a1ecmdamap e.cmd.amap.members.length k1ecmdamap, .slice a0econf e.conf.voters.length k0econf, .slice a1econf e.conf.learners.length k1econf] 71 H ?_
 intro q _ H
 refine uF 0 ?_
 refine uR 1 [.c [1, 0], .c [2]] ?_
 refine qG (sq 0 9) ?_
 refine uP 3 ?_
 refine uK (last0_spec (S := fun _ => True) (l := l) (Fc.pre (xs := [.I id, ce1, ce2, .int .u64 term, ce4, .int .u64 bs, .int .u64 bq, .slice av vn kv, .slice aw wn kw, ce9, .slice al l.length kl, ce11, ce12, ce13, ce14, ce15, ce16, .slice ap pn kp, ce18, ce19, ce20]) (ys := [ce21, ce22, .slice ad ds.length kd, ce24, ce25, ce26, ce27, ce28, ce29, ce30, ce31]) (by simp) (H.viewM 1 rfl (by simp))) (H.view 0 rfl)) ?_
 rintro _ _ X rfl
 have H := H.ext X
 refine uF 5 ?_
 refine uR 1 [.c [2, 0], .c [3]] ?_
 refine WK.drawH1 [q] (.leaf [(0, .qui), (1, .qui), (2, .qui), (3, .qui), (4, .qui), (5, .qui), (6, .qui), (7, .qui), (8, .qui), (9, .seq), (10, .qui), (11, .seq)]) Tryz_mixed (by as_aux_lemma => kernel_rfl) (by as_aux_lemma => kernel_rfl) ?_
 intro w5 N
 have H := H.draw
 rw [← N] at H
 clear N
 have hS := Chg.refl w5 [q]
 refine RG.leaf' [(0, .qui), (1, .qui), (2, .qui), (3, .qui), (4, .qui), (5, .qui), (6, .qui), (7, .qui), (8, .qui), (9, .seq), (10, .qui), (11, .seq)] (by as_aux_lemma => kernel_rfl) ?_
 refine uHP hS 1 ?_
 refine RH.pv (d := some 16) (r := [(2, .qui), (3, .qui), (4, .qui), (5, .qui), (6, .qui), (7, .qui), (8, .qui), (9, .seq), (10, .qui), (11, .seq)]) (v := .int .u64 (IntKind.u64.wrap (((lastL l bs bq).1) + 1))) (v' := .int .u64 (((lastL l bs bq).1) + 1)) (by as_aux_lemma => kernel_rfl) hS (wr_u64 (by omega)) ?_
 refine uHP hS 5 ?_
 refine uHV 25 3 hS (H.cells 1 rfl) (nq1 (H.raws 1 0 rfl rfl (by decide))) ?_
 refine uHP hS 1 ?_
 have Hr := H
 refine RH.sto ?_
 refine uWC 25 0 #[.int .u64 (((lastL l bs bq).1) + 1), .int .u64 e.term, .I e.kind, .I e.cmd.kind, .int .u64 e.cmd.client, .int .u64 e.cmd.seq, .string e.cmd.key, .I e.cmd.size, .int .u32 ((e.cmd.sum.toNat : Nat) : Int), .int .u64 e.cmd.version, .int .u64 e.cmd.epoch, .I e.cmd.group, .I e.cmd.node, .bool e.cmd.up, .int .u64 e.cmd.id.version, .I e.cmd.id.index, .int .u64 e.cmd.id.epoch, .int .u64 e.cmd.amap.epoch, .slice a1ecmdamap e.cmd.amap.members.length k1ecmdamap, .slice a0econf e.conf.voters.length k0econf, .slice a1econf e.conf.learners.length k1econf] H 0 rfl ?_
 intro _ W H
 have Q := hS.sto W (.inr (by simp))
 refine ⟨Q, ?_⟩
 have hS := Q
 refine uHP hS 1 ?_
 refine RH.sto ?_
 refine uWC 25 1 #[.int .u64 (((lastL l bs bq).1) + 1), .int .u64 term, .I e.kind, .I e.cmd.kind, .int .u64 e.cmd.client, .int .u64 e.cmd.seq, .string e.cmd.key, .I e.cmd.size, .int .u32 ((e.cmd.sum.toNat : Nat) : Int), .int .u64 e.cmd.version, .int .u64 e.cmd.epoch, .I e.cmd.group, .I e.cmd.node, .bool e.cmd.up, .int .u64 e.cmd.id.version, .I e.cmd.id.index, .int .u64 e.cmd.id.epoch, .int .u64 e.cmd.amap.epoch, .slice a1ecmdamap e.cmd.amap.members.length k1ecmdamap, .slice a0econf e.conf.voters.length k0econf, .slice a1econf e.conf.learners.length k1econf] H 0 rfl ?_
 intro R K H
 have C := hS.sto K (.inr (by simp))
 refine ⟨C, ?_⟩
 have hS := C
 refine uHF hS 0 ?_
 refine qR 1 [.c [3, 0], .c [4]] [(0, .P mb 0), (3, .P q 0)] ?_
 refine WK.drawP1 9 [0, 1, 2, 3, 4, 5] [(30, .P mb 10), (29, .P mb 0), (28, .P mb 0), (27, .P mb 0), (26, .P mb 0), (25, .P mb 0), (0, .P mb 0), (3, .P q 0)] [(6, .qui), (7, .qui), (8, .chn)] [(6, .qui), (7, .qui), (8, .chn), (9, .seq), (10, .seq), (11, .seq), (12, .seq), (13, .seq), (14, .seq)] Tryz_mixed (by as_aux_lemma => kernel_rfl) (by as_aux_lemma => kernel_rfl) (by as_aux_lemma => kernel_rfl) (by as_aux_lemma => kernel_rfl) ?_
 have H := H.draw
 generalize ({ R with drawn := R.drawn + 1 } : World) = d0 at H ⊢
 refine uV 30 10 (H.cells 1 rfl) ?_
 refine uV 71 0 (H.cells 0 rfl) ?_
 refine RW.new (κ := .chn) (d := some 33) (r := [(9, .seq), (10, .seq), (11, .seq), (12, .seq), (13, .seq), (14, .seq)]) (o := .cells #[.int .u64 (((lastL l bs bq).1) + 1), .int .u64 term, .I e.kind, .I e.cmd.kind, .int .u64 e.cmd.client, .int .u64 e.cmd.seq, .string e.cmd.key, .I e.cmd.size, .int .u32 ((e.cmd.sum.toNat : Nat) : Int), .int .u64 e.cmd.version, .int .u64 e.cmd.epoch, .I e.cmd.group, .I e.cmd.node, .bool e.cmd.up, .int .u64 e.cmd.id.version, .I e.cmd.id.index, .int .u64 e.cmd.id.epoch, .int .u64 e.cmd.amap.epoch, .slice a1ecmdamap e.cmd.amap.members.length k1ecmdamap, .slice a0econf e.conf.voters.length k0econf, .slice a1econf e.conf.learners.length k1econf] 71 (0, 0)) (v := fun b => .slice (some ⟨b, 0, none⟩) 1 1) (fun b => by as_aux_lemma => kernel_rfl) (nofun) H ?_
 intro Y _ H
 have H := H.freeze 0 rfl entS ([⟨((lastL l bs bq).1) + 1, term, e.kind, e.cmd, e.conf⟩] : List Ent) 1 (by simp [maxLen]) (by first | exact Nat.le_refl _ | simp) (EsP.cons (c := [.int .u64 (((lastL l bs bq).1) + 1), .int .u64 term, .I e.kind, .I e.cmd.kind, .int .u64 e.cmd.client, .int .u64 e.cmd.seq, .string e.cmd.key, .I e.cmd.size, .int .u32 ((e.cmd.sum.toNat : Nat) : Int), .int .u64 e.cmd.version, .int .u64 e.cmd.epoch, .I e.cmd.group, .I e.cmd.node, .bool e.cmd.up, .int .u64 e.cmd.id.version, .I e.cmd.id.index, .int .u64 e.cmd.id.epoch, .int .u64 e.cmd.amap.epoch, .slice a1ecmdamap e.cmd.amap.members.length k1ecmdamap, .slice a0econf e.conf.voters.length k0econf, .slice a1econf e.conf.learners.length k1econf]) (ent_mk u64a u64a i64a (cmd_mk (l0 := [.I e.cmd.kind]) (y0 := e.cmd.kind) (l1 := [.int .u64 e.cmd.client]) (y1 := e.cmd.client) (l2 := [.int .u64 e.cmd.seq]) (y2 := e.cmd.seq) (l3 := [.string e.cmd.key]) (y3 := e.cmd.key) (l4 := [.I e.cmd.size]) (y4 := e.cmd.size) (l5 := [.int .u32 ((e.cmd.sum.toNat : Nat) : Int)]) (y5 := e.cmd.sum) (l6 := [.int .u64 e.cmd.version]) (y6 := e.cmd.version) (l7 := [.int .u64 e.cmd.epoch]) (y7 := e.cmd.epoch) (l8 := [.I e.cmd.group]) (y8 := e.cmd.group) (l9 := [.I e.cmd.node]) (y9 := e.cmd.node) (l10 := [.bool e.cmd.up]) (y10 := e.cmd.up) (l11 := [.int .u64 e.cmd.id.version, .I e.cmd.id.index, .int .u64 e.cmd.id.epoch]) (y11 := e.cmd.id) (l12 := [.int .u64 e.cmd.amap.epoch, .slice a1ecmdamap e.cmd.amap.members.length k1ecmdamap]) (y12 := e.cmd.amap) i64a u64a u64a ⟨rfl, u⟩ i64a Shape.bv_mk u64a u64a i64a i64a Shape.bool_mk (cid_mk u64a i64a u64a) (amap_mk u64a (H.rp 0 rfl))) (conf_mk (H.rp 1 rfl) (H.rp 2 rfl))) EsP.nil)
 have H : Hp w S O [_, _] [_, _, _] [Rp (Shape.slice entS) [.slice (some ⟨Y, 0, none⟩) 1 1] ([⟨((lastL l bs bq).1) + 1, term, e.kind, e.cmd, e.conf⟩] : List Ent), _, _, _] _ := H
 refine uA 30 30 224 (l ++ ([⟨((lastL l bs bq).1) + 1, term, e.kind, e.cmd, e.conf⟩] : List Ent)) H 0 rfl 0 rfl (rfl) (by simp; omega) ?_
 intro x y _ H _
 have H : Hp w S O [_, _] [⟨entS, 71, .slice x ((l ++ ([⟨((lastL l bs bq).1) + 1, term, e.kind, e.cmd, e.conf⟩] : List Ent)).length) y, l ++ ([⟨((lastL l bs bq).1) + 1, term, e.kind, e.cmd, e.conf⟩] : List Ent)⟩, _, _] [_, _, _, _] _ := H
 refine uP 4 ?_
 refine uW 30 10 #[.I id, ce1, ce2, .int .u64 term, ce4, .int .u64 bs, .int .u64 bq, .slice av vn kv, .slice aw wn kw, ce9, .slice x ((l ++ ([⟨((lastL l bs bq).1) + 1, term, e.kind, e.cmd, e.conf⟩] : List Ent)).length) y, ce11, ce12, ce13, ce14, ce15, ce16, .slice ap pn kp, ce18, ce19, ce20, ce21, ce22, .slice ad ds.length kd, ce24, ce25, ce26, ce27, ce28, ce29, ce30, ce31] H 1 rfl ?_
 intro U H
 refine uF 0 ?_
 refine qR 1 [.c [4, 0], .c [5]] [(0, .P mb 0), (3, .P q 0)] ?_
 have H := H.pick [1, 2, 3] rfl
 refine WK.drawP1 8 [0, 1, 2, 3, 4] [(43, .P mb 23), (42, .P mb 21), (41, .P mb 0), (40, .P mb 0), (39, .P mb 0), (0, .P mb 0), (3, .P q 0)] [(5, .qui), (6, .qui), (7, .chn)] [(5, .qui), (6, .qui), (7, .chn), (8, .seq), (9, .seq), (10, .seq), (11, .seq), (12, .seq)] Tryz_mixed (by as_aux_lemma => kernel_rfl) (by as_aux_lemma => kernel_rfl) (by as_aux_lemma => kernel_rfl) (by as_aux_lemma => kernel_rfl) ?_
 have H := H.draw
 generalize ({ U with drawn := U.drawn + 1 } : World) = e0 at H ⊢
 refine uV 30 23 (H.cells 1 rfl) ?_
 refine uV 71 0 (H.cells 0 rfl) ?_
 refine RW.new (κ := .chn) (d := some 46) (r := [(8, .seq), (9, .seq), (10, .seq), (11, .seq), (12, .seq)]) (o := .cells #[.int .u64 (((lastL l bs bq).1) + 1), .int .u64 term, .I e.kind, .I e.cmd.kind, .int .u64 e.cmd.client, .int .u64 e.cmd.seq, .string e.cmd.key, .I e.cmd.size, .int .u32 ((e.cmd.sum.toNat : Nat) : Int), .int .u64 e.cmd.version, .int .u64 e.cmd.epoch, .I e.cmd.group, .I e.cmd.node, .bool e.cmd.up, .int .u64 e.cmd.id.version, .I e.cmd.id.index, .int .u64 e.cmd.id.epoch, .int .u64 e.cmd.amap.epoch, .slice a1ecmdamap e.cmd.amap.members.length k1ecmdamap, .slice a0econf e.conf.voters.length k0econf, .slice a1econf e.conf.learners.length k1econf] 71 (0, 0)) (v := fun b => .slice (some ⟨b, 0, none⟩) 1 1) (fun b => by as_aux_lemma => kernel_rfl) (nofun) H ?_
 intro Z _ H
 have H := H.freeze 0 rfl entS ([⟨((lastL l bs bq).1) + 1, term, e.kind, e.cmd, e.conf⟩] : List Ent) 1 (by simp [maxLen]) (by first | exact Nat.le_refl _ | simp) (EsP.cons (c := [.int .u64 (((lastL l bs bq).1) + 1), .int .u64 term, .I e.kind, .I e.cmd.kind, .int .u64 e.cmd.client, .int .u64 e.cmd.seq, .string e.cmd.key, .I e.cmd.size, .int .u32 ((e.cmd.sum.toNat : Nat) : Int), .int .u64 e.cmd.version, .int .u64 e.cmd.epoch, .I e.cmd.group, .I e.cmd.node, .bool e.cmd.up, .int .u64 e.cmd.id.version, .I e.cmd.id.index, .int .u64 e.cmd.id.epoch, .int .u64 e.cmd.amap.epoch, .slice a1ecmdamap e.cmd.amap.members.length k1ecmdamap, .slice a0econf e.conf.voters.length k0econf, .slice a1econf e.conf.learners.length k1econf]) (ent_mk u64a u64a i64a (cmd_mk (l0 := [.I e.cmd.kind]) (y0 := e.cmd.kind) (l1 := [.int .u64 e.cmd.client]) (y1 := e.cmd.client) (l2 := [.int .u64 e.cmd.seq]) (y2 := e.cmd.seq) (l3 := [.string e.cmd.key]) (y3 := e.cmd.key) (l4 := [.I e.cmd.size]) (y4 := e.cmd.size) (l5 := [.int .u32 ((e.cmd.sum.toNat : Nat) : Int)]) (y5 := e.cmd.sum) (l6 := [.int .u64 e.cmd.version]) (y6 := e.cmd.version) (l7 := [.int .u64 e.cmd.epoch]) (y7 := e.cmd.epoch) (l8 := [.I e.cmd.group]) (y8 := e.cmd.group) (l9 := [.I e.cmd.node]) (y9 := e.cmd.node) (l10 := [.bool e.cmd.up]) (y10 := e.cmd.up) (l11 := [.int .u64 e.cmd.id.version, .I e.cmd.id.index, .int .u64 e.cmd.id.epoch]) (y11 := e.cmd.id) (l12 := [.int .u64 e.cmd.amap.epoch, .slice a1ecmdamap e.cmd.amap.members.length k1ecmdamap]) (y12 := e.cmd.amap) i64a u64a u64a ⟨rfl, u⟩ i64a Shape.bv_mk u64a u64a i64a i64a Shape.bool_mk (cid_mk u64a i64a u64a) (amap_mk u64a (H.rp 0 rfl))) (conf_mk (H.rp 1 rfl) (H.rp 2 rfl))) EsP.nil)
 have H : Hp w S O [_, _] [_, _, _] [Rp (Shape.slice entS) [.slice (some ⟨Z, 0, none⟩) 1 1] ([⟨((lastL l bs bq).1) + 1, term, e.kind, e.cmd, e.conf⟩] : List Ent), _, _, _] _ := H
 refine uA 30 30 224 (ds ++ ([⟨((lastL l bs bq).1) + 1, term, e.kind, e.cmd, e.conf⟩] : List Ent)) H 2 rfl 0 rfl (rfl) (by simp; omega) ?_
 intro z A _ H _
 have H : Hp w S O [_, _] [_, _, ⟨entS, 71, .slice z ((ds ++ ([⟨((lastL l bs bq).1) + 1, term, e.kind, e.cmd, e.conf⟩] : List Ent)).length) A, ds ++ ([⟨((lastL l bs bq).1) + 1, term, e.kind, e.cmd, e.conf⟩] : List Ent)⟩] [_, _, _, _] _ := H
 refine uP 3 ?_
 refine uW 30 23 #[.I id, ce1, ce2, .int .u64 term, ce4, .int .u64 bs, .int .u64 bq, .slice av vn kv, .slice aw wn kw, ce9, .slice x ((l ++ ([⟨((lastL l bs bq).1) + 1, term, e.kind, e.cmd, e.conf⟩] : List Ent)).length) y, ce11, ce12, ce13, ce14, ce15, ce16, .slice ap pn kp, ce18, ce19, ce20, ce21, ce22, .slice z ((ds ++ ([⟨((lastL l bs bq).1) + 1, term, e.kind, e.cmd, e.conf⟩] : List Ent)).length) A, ce24, ce25, ce26, ce27, ce28, ce29, ce30, ce31] H 1 rfl ?_
 intro _ H
 refine uF 0 ?_
 refine uR 1 [.c [5, 0], .c [6]] ?_
 have H := H.pick [1, 2, 3] rfl
 refine qG (sq 0 8) ?_
 refine uP 5 ?_
 refine uV 32 17 (H.cells 1 rfl) ?_
 refine uF 2 ?_
 refine uR 1 [.c [6, 0], .b 0] ?_
 have H := H.frontW 1 rfl
 have H := H.reW (ys := (bumps id ((lastL l bs bq).1 + 1) ps 0)) rfl
 refine uL (α := Nat) (g := 87) (p := [6, 0, 0]) (fun k => [(0, .P mb 0), (3, .P q 0), (57, .I ((pn : Nat) : Int)), (58, .I k)]) (fun k w' => Hp w S O [(q, .cells #[.int .u64 (((lastL l bs bq).1) + 1), .int .u64 term, .I e.kind, .I e.cmd.kind, .int .u64 e.cmd.client, .int .u64 e.cmd.seq, .string e.cmd.key, .I e.cmd.size, .int .u32 ((e.cmd.sum.toNat : Nat) : Int), .int .u64 e.cmd.version, .int .u64 e.cmd.epoch, .I e.cmd.group, .I e.cmd.node, .bool e.cmd.up, .int .u64 e.cmd.id.version, .I e.cmd.id.index, .int .u64 e.cmd.id.epoch, .int .u64 e.cmd.amap.epoch, .slice a1ecmdamap e.cmd.amap.members.length k1ecmdamap, .slice a0econf e.conf.voters.length k0econf, .slice a1econf e.conf.learners.length k1econf] 71 (0, 0)), (mb, .cells #[.I id, ce1, ce2, .int .u64 term, ce4, .int .u64 bs, .int .u64 bq, .slice av vn kv, .slice aw wn kw, ce9, .slice x ((l ++ ([⟨((lastL l bs bq).1) + 1, term, e.kind, e.cmd, e.conf⟩] : List Ent)).length) y, ce11, ce12, ce13, ce14, ce15, ce16, .slice ap pn kp, ce18, ce19, ce20, ce21, ce22, .slice z ((ds ++ ([⟨((lastL l bs bq).1) + 1, term, e.kind, e.cmd, e.conf⟩] : List Ent)).length) A, ce24, ce25, ce26, ce27, ce28, ce29, ce30, ce31] 99 (0, 0))] [⟨peerS, 123, .slice ap pn kp, (bumps id ((lastL l bs bq).1 + 1) ps k)⟩, ⟨entS, 71, .slice x ((l ++ ([⟨((lastL l bs bq).1) + 1, term, e.kind, e.cmd, e.conf⟩] : List Ent)).length) y, l ++ ([⟨((lastL l bs bq).1) + 1, term, e.kind, e.cmd, e.conf⟩] : List Ent)⟩, ⟨entS, 71, .slice z ((ds ++ ([⟨((lastL l bs bq).1) + 1, term, e.kind, e.cmd, e.conf⟩] : List Ent)).length) A, ds ++ ([⟨((lastL l bs bq).1) + 1, term, e.kind, e.cmd, e.conf⟩] : List Ent)⟩] [Rp (Shape.slice memS) [.slice a1ecmdamap e.cmd.amap.members.length k1ecmdamap] e.cmd.amap.members, Rp (Shape.slice (Shape.int .i64)) [.slice a0econf e.conf.voters.length k0econf] e.conf.voters, Rp (Shape.slice (Shape.int .i64)) [.slice a1econf e.conf.learners.length k1econf] e.conf.learners] w' ∧ k ≤ ps.length) (fun k => ps.length - k) 0 ⟨H, Nat.zero_le _⟩ ?_
 rintro k V ⟨H, _⟩ s
 refine uR 3 [.c [6, 0, 0, 1, 0], .c [6, 0, 0, 2], .l [6, 0, 0], .b 0] ?_
 refine qD (((k : Int) : Int) < ((pn : Nat) : Int)) (fun a0 => ?_) (fun a0 => ?_)
 ·
  refine uR 6 [.c [6, 0, 0, 2, 0, 0, 1, 0], .c [6, 0, 0, 2, 0, 0, 2], .b 1, .c [6, 0, 0, 3], .l [6, 0, 0], .b 0] ?_
  refine qG (sq 0 9) ?_
  refine uP 5 ?_
  refine uV 32 17 (H.cells 1 rfl) ?_
  refine uP 1 ?_
  have i : pn = (bumps id ((lastL l bs bq).1 + 1) ps k).length := by rw [bumps_len _ _ _ (by omega)]; exact hpn
  have j : k < (bumps id ((lastL l bs bq).1 + 1) ps k).length := by rw [bumps_len _ _ _ (by omega)]; omega
  refine RW.indexW (κ := .seq) (d := some 68) (r := (sq 8 9)) (T := 32) (e := 123) (m := 4) (ik := .i64) (ix := (k : Int)) (sh := peerS) (xs := (bumps id ((lastL l bs bq).1 + 1) ps k)) (a := ap) (len := pn) (cap := kp) (by as_aux_lemma => kernel_rfl) (by as_aux_lemma => kernel_rfl) rfl H k (by omega) j i ?_
  intro t _ n _ D
  rw [bumps_at (by omega)] at D
  obtain ⟨rfl, _, _, _⟩ := peer_open D
  refine uF 1 ?_
  refine uR 1 [.c [6, 0, 0, 2, 0, 0, 2, 0], .c [6, 0, 0, 2, 0, 0, 3], .b 1, .c [6, 0, 0, 3], .l [6, 0, 0], .b 0] ?_
  refine WK.draw1 11 (qs [0, 1, 2, 3, 4, 5, 6, 7, 8, 9, 10]) (qs [0, 1, 2, 3, 4, 5, 6, 7, 8, 9, 10]) Tryz_mixed (by as_aux_lemma => kernel_rfl) (by as_aux_lemma => kernel_rfl) (by as_aux_lemma => kernel_rfl) ?_
  have H := H.draw
  generalize ({ V with drawn := V.drawn + 1 } : World) = f0 at H ⊢
  refine uP 3 ?_
  obtain ⟨_, B, E⟩ := H.ownAtB n k j i
  rw [bumps_at (by omega)] at E
  obtain ⟨rfl, _, _, _⟩ := peer_open E
  refine uV 3 0 B ?_
  refine uP 5 ?_
  refine uV 3 0 (H.cells 1 rfl) ?_
  refine uF 1 ?_
  refine qE ((ps[k]).id) id (fun b0 => ?_) (fun b0 => ?_)
  ·
   refine WK.drawH1 [t] (.leaf [(0, .qui), (1, .qui), (2, .qui), (3, .qui), (4, .qui), (5, .qui), (6, .qui), (7, .qui), (8, .qui), (9, .seq), (10, .qui), (11, .qui), (12, .seq)]) Tryz_mixed (by as_aux_lemma => kernel_rfl) (by as_aux_lemma => kernel_rfl) ?_
   intro c0 F
   have H := H.draw
   rw [← F] at H
   clear F
   have hS := Chg.refl c0 [t]
   refine RG.leaf' [(0, .qui), (1, .qui), (2, .qui), (3, .qui), (4, .qui), (5, .qui), (6, .qui), (7, .qui), (8, .qui), (9, .seq), (10, .qui), (11, .qui), (12, .seq)] (by as_aux_lemma => kernel_rfl) ?_
   refine uHP hS 3 ?_
   refine uHV 25 0 hS (H.cells 0 rfl) (nq1 (H.neMWB 0 rfl 0 rfl n)) ?_
   refine qHP hS 1 [(5, .qui), (6, .qui), (7, .qui), (8, .qui), (9, .seq), (10, .qui), (11, .qui), (12, .seq)] [(0, .P mb 0), (3, .P q 0), (57, .I ((pn : Nat) : Int)), (58, .I k), (80, .pointer (some ⟨t, k * 4, none⟩)), (81, .pointer (some ⟨t, k * 4, none⟩)), (83, .int .u64 (((lastL l bs bq).1) + 1)), (84, .P q 0)] ?_
   refine uHV 25 0 hS (H.cells 0 rfl) (nq1 (H.neMWB 0 rfl 0 rfl n)) ?_
   refine RH.pv (d := some 86) (r := [(7, .qui), (8, .qui), (9, .seq), (10, .qui), (11, .qui), (12, .seq)]) (v := .int .u64 (IntKind.u64.wrap ((((lastL l bs bq).1) + 1) + 1))) (v' := .int .u64 ((((lastL l bs bq).1) + 1) + 1)) (by as_aux_lemma => kernel_rfl) hS (wr_u64 (by omega)) ?_
   refine uHP hS 2 ?_
   have Hr := H
   refine RH.sto ?_
   refine RW.storeWFC (d := none) (r := []) (e := 25) (m := 4) (f := 2) (b := t) (k := k) (v := .int .u64 (((lastL l bs bq).1) + 1)) (by as_aux_lemma => kernel_rfl) rfl (by decide) (by as_aux_lemma => kernel_rfl) rfl H n (by first | exact j | (simp only [List.length_set]; exact j)) (by first | exact i | (simp only [List.length_set]; exact i)) ({ ps[k] with mat := ((lastL l bs bq).1) + 1 }) (fun _ _ h => peer_mat (by omega) (by rw [bumps_at (by omega)] at h; exact h)) ?_
   intro _ L H
   have G := hS.sto L (.inr (by simp))
   refine ⟨G, ?_⟩
   have hS := G
   refine uHP hS 2 ?_
   refine RH.sto ?_
   refine RW.storeWFC (d := none) (r := []) (e := 25) (m := 4) (f := 1) (b := t) (k := k) (v := .int .u64 ((((lastL l bs bq).1) + 1) + 1)) (by as_aux_lemma => kernel_rfl) rfl (by decide) (by as_aux_lemma => kernel_rfl) rfl H n (by first | exact j | (simp only [List.length_set]; exact j)) (by first | exact i | (simp only [List.length_set]; exact i)) ({ ps[k] with mat := ((lastL l bs bq).1 + 1), next := (((lastL l bs bq).1) + 1) + 1 }) (fun _ _ h => peer_next (p := { ps[k] with mat := ((lastL l bs bq).1 + 1) }) (by omega) (by rw [List.getElem_set_self] at h; exact h)) ?_
   intro _ M H
   have H := H.reW (ys := (bumps id ((lastL l bs bq).1 + 1) ps (k + 1))) (bumps_yes (by omega) (by assumption) _)
   have J := hS.sto M (.inr (by simp))
   refine ⟨J, ?_⟩
   have hS := J
   refine uHF hS 0 ?_
   refine uR 1 [.c [6, 0, 0, 3], .l [6, 0, 0], .b 0] ?_
   refine qG (sq 0 2) ?_
   refine uI ((k : Int) + 1) ?_
   refine uF 1 ?_
   exact uB (s (k + 1) _ ⟨H, by omega⟩ (by first | omega | (simp only []; omega)))
  ·
   refine uR 2 [.c [6, 0, 0, 3], .l [6, 0, 0], .b 0] ?_
   refine qG (sq 0 2) ?_
   refine uI ((k : Int) + 1) ?_
   refine uF 1 ?_
   have H := H.reW (ys := (bumps id ((lastL l bs bq).1 + 1) ps (k + 1))) (bumps_no (by omega) (by assumption))
   exact uB (s (k + 1) _ ⟨H, by omega⟩ (by first | omega | (simp only []; omega)))
 ·
  refine uR 1 [] ?_
  refine WK.fin (v := .tuple #[]) Tryz.func87 (by as_aux_lemma => kernel_rfl) ?_
  have H := H.frontM 1 rfl
  have hkF : k = ps.length := by omega
  subst hkF
  have H := H.reW (ys := (ps.map (bump1 id ((lastL l bs bq).1 + 1)))) (bumps_all _ _ _)
  have H := H.frontW 2 rfl
  have H := H.frontW 1 rfl
  have H := H.frontW 2 rfl
  have H := H.take 1 3
  exact ⟨_, rfl, _, _, _, _, rfl, H.pick [] rfl⟩
end Go.Proofs.YtkjkmogipidkiaaGreat
