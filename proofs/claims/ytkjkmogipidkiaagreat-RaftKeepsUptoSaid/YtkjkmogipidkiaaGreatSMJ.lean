import Derived.Test.YtkjkmogipidkiaaGreatSMI
import Derived.Test.YtkjkmogipidkiaaGreatSA4
namespace Go.Proofs.YtkjkmogipidkiaaGreat
open Go.BX
def startR (C : Conf) (k : Int) : Raft := { mkR 1 10 2 ⟨0, 0, 0, 0, C, [], []⟩ with elapsed := k }
theorem start_ok {C : Conf} {k : Int} (hC : okConf C = true) (hk : 0 ≤ k ∧ k ≤ 10) : okR (startR C k) := by
 refine ⟨?_, ⟨?_, ?_, ?_, hC, rfl⟩, ⟨?_, ?_, ?_, ?_⟩, rfl, ⟨?_, ?_, ?_⟩, ?_, ?_, ?_⟩
 · exact ⟨by show (1 : Int) ≤ 1; decide, by show (1 : Int) ≤ 32; decide, by show (1 : Int) ≤ 2; decide, by show (10 : Int) ≤ 1000; decide, by show (2 : Int) * 2 ≤ 10; decide⟩
 · show (0 : Int) < _; decide
 · show (0 : Int) < _; decide
 · show (0 : Int) ≤ 0; decide
 · show (0 : Int) < _; decide
 · intro _; rfl
 · show (0 : Int) ≤ 0; decide
 · show (0 : Int) ≤ 0; decide
 · show (0 : Int) ≤ 0 ∧ (0 : Int) ≤ 3; decide
 · show 0 ≤ k ∧ k ≤ 2000; omega
 · show (0 : Int) ≤ 10 ∧ (10 : Int) ≤ 2000; decide
 · show (0 : Int) ≤ 0 ∧ (0 : Int) ≤ 32; decide
 · show (0 : Int) ≤ 0 ∧ (0 : Int) ≤ 32; decide
 · show (0 : Int) ≤ 0 ∧ (0 : Int) ≤ 32; decide
theorem news_spec {S : Nat → Prop} {w : World} {cs : List Value} {C : Conf} (h : confS.rep S w cs C) (hC : okConf C = true) (h1 : C.voters.length ≤ 1000) (h2 : C.learners.length ≤ 1000) :
 Calls Tryz.prog 7 #[.I 1, .I 10, .I 2, .agg cs.toArray] w (Ret fun v w' => Ext w w' ∧ ∃ ds : List Value, v = .tuple #[.agg ds.toArray, .I 0] ∧ raftS.rep (Nw S w) w' ds (startR C 0)) := by
 have a := new_spec h 1 10 2 (by decide) (by decide) (by decide) (by omega) (by omega)
 rw [againOf_ok (id := 1) (el := 10) (bt := 2) (K := ⟨0, 0, 0, 0, C, [], []⟩) (start_ok (k := 0) hC (by decide))] at a
 exact a
theorem stepWs {S : Nat → Prop} {w : World} {cs : List Value} {C : Conf} {k : Int} (hR : raftS.rep S w cs (startR C k)) (hC : okConf C = true) (h1 : C.voters.length ≤ 1000) (h2 : C.learners.length ≤ 1000) (hk : 0 ≤ k ∧ k < 9) :
 Calls Tryz.prog 8 #[.agg cs.toArray, tickI] w (Ret fun v w' => Ext w w' ∧ ∃ ds : List Value, v = .tuple #[.agg ds.toArray, zeroO] ∧ raftS.rep (Nw S w) w' ds (startR C (k + 1))) :=
 stepW_spec hR (Nat.le_trans h1 (by decide)) (Nat.le_trans h2 (by decide)) (Nat.zero_le _) (Nat.zero_le _) (Nat.zero_le _) (Nat.zero_le _) rfl (start_ok hC (by omega)) (by show (0 : Int) ≠ 3; decide) rfl (by show k + 1 < 10; omega)
theorem stepAs {S : Nat → Prop} {w : World} {cs : List Value} (hR : raftS.rep S w cs (startR ⟨[1], []⟩ 9)) :
 Calls Tryz.prog 8 #[.agg cs.toArray, tickI] w (Ret fun v w' => Ext w w' ∧ ∃ (d0 : Int) (d1 : Int) (d2 : Int) (d4 : Int) (d5 : Int) (d6 : Int) (da7 : Option Addr) (dn7 : Nat) (dc7 : Nat) (da8 : Option Addr) (dn8 : Nat) (dc8 : Nat) (da9 : Option Addr) (dn9 : Nat) (dc9 : Nat) (da10 : Option Addr) (dn10 : Nat) (dc10 : Nat) (d13 : Int) (d14 : Int) (d15 : Int) (da16 : Option Addr) (dn16 : Nat) (dc16 : Nat) (da17 : Option Addr) (dn17 : Nat) (dc17 : Nat) (d18 : Int) (da19 : Option Addr) (dn19 : Nat) (dc19 : Nat) (d20 : Int) (o1 : Int) (oa2 : Option Addr) (on2 : Nat) (oc2 : Nat) (o3 : Bool) (oa4 : Option Addr) (on4 : Nat) (oc4 : Nat) (oa6 : Option Addr) (on6 : Nat) (oc6 : Nat) (oa7 : Option Addr) (on7 : Nat) (oc7 : Nat) (o8 : Bool) (o9 : Int) (ax9 : Option Addr) (cx9 : Nat), v = .tuple #[.agg #[.I d0, .I d1, .I d2, .int .u64 (1), .I d4, .int .u64 d5, .int .u64 d6, .slice da7 dn7 dc7, .slice da8 dn8 dc8, .slice da9 dn9 dc9, .slice da10 dn10 dc10, .int .u64 1, .I 3, .I d13, .I d14, .I d15, .slice da16 dn16 dc16, .slice da17 dn17 dc17, .int .u64 d18, .slice da19 dn19 dc19, .I d20], .agg #[.bool true, .int .u64 o1, .slice oa2 on2 oc2, .bool o3, .slice oa4 on4 oc4, .slice ax9 1 cx9, .slice oa6 on6 oc6, .slice oa7 on7 oc7, .bool o8, .I o9]]) :=
 stepA_spec hR (by decide) (by decide) (Nat.zero_le _) (Nat.zero_le _) (Nat.zero_le _) (Nat.zero_le _) rfl (start_ok (by decide) (by decide)) (by show (0 : Int) ≠ 3; decide) rfl rfl (by show (10 : Int) ≤ 9 + 1; decide) (by show (9 : Int) < 1999; decide) rfl rfl
def msB : List Msg := [askM (preM 1) 0 0 1 2, askM (preM 1) 0 0 1 3]
theorem stepBs {S : Nat → Prop} {w : World} {cs : List Value} (hR : raftS.rep S w cs (startR ⟨[1, 2, 3], []⟩ 9)) :
 Calls Tryz.prog 8 #[.agg cs.toArray, tickI] w (Ret fun v w' => Ext w w' ∧ ∃ (d0 : Int) (d1 : Int) (d2 : Int) (d3 : Int) (d4 : Int) (d5 : Int) (d6 : Int) (da7 : Option Addr) (dn7 : Nat) (dc7 : Nat) (da8 : Option Addr) (dn8 : Nat) (dc8 : Nat) (da9 : Option Addr) (dn9 : Nat) (dc9 : Nat) (da10 : Option Addr) (dn10 : Nat) (dc10 : Nat) (d11 : Int) (d13 : Int) (d14 : Int) (d15 : Int) (da16 : Option Addr) (dn16 : Nat) (dc16 : Nat) (da17 : Option Addr) (dn17 : Nat) (dc17 : Nat) (d18 : Int) (da19 : Option Addr) (dn19 : Nat) (dc19 : Nat) (d20 : Int) (o0 : Bool) (o1 : Int) (oa2 : Option Addr) (on2 : Nat) (oc2 : Nat) (o3 : Bool) (oa5 : Option Addr) (on5 : Nat) (oc5 : Nat) (oa6 : Option Addr) (on6 : Nat) (oc6 : Nat) (oa7 : Option Addr) (on7 : Nat) (oc7 : Nat) (o8 : Bool) (o9 : Int) (ax9 : Option Addr) (cx9 : Nat), v = .tuple #[.agg #[.I d0, .I d1, .I d2, .int .u64 d3, .I d4, .int .u64 d5, .int .u64 d6, .slice da7 dn7 dc7, .slice da8 dn8 dc8, .slice da9 dn9 dc9, .slice da10 dn10 dc10, .int .u64 d11, .I 1, .I d13, .I d14, .I d15, .slice da16 dn16 dc16, .slice da17 dn17 dc17, .int .u64 d18, .slice da19 dn19 dc19, .I d20], .agg #[.bool o0, .int .u64 o1, .slice oa2 on2 oc2, .bool o3, .slice ax9 2 cx9, .slice oa5 on5 oc5, .slice oa6 on6 oc6, .slice oa7 on7 oc7, .bool o8, .I o9]] ∧ (Shape.slice msgS).rep (Nw S w) w' [.slice ax9 2 cx9] msB) :=
 stepB_spec hR (by decide) (by decide) (Nat.zero_le _) (Nat.zero_le _) (Nat.zero_le _) (Nat.zero_le _) rfl (start_ok (by decide) (by decide)) (by show (0 : Int) ≠ 3; decide) rfl rfl (by show (10 : Int) ≤ 9 + 1; decide) (by show (9 : Int) < 1999; decide) (by decide) (by decide) (by decide)
end Go.Proofs.YtkjkmogipidkiaaGreat
