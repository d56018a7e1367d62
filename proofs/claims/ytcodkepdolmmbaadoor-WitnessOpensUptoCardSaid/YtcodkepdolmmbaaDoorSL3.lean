import Derived.Test.YtcodkepdolmmbaaDoorSL2
import Derived.Test.YtcodkepdolmmbaaDoorSBxA
import Derived.Lib.LaidPrint
namespace Go.Proofs.YtcodkepdolmmbaaDoor
open Go.Proofs Go.BX
def tabsQ : World → Prop := fun w => Lib.PrintTabsAt 5 6 7 8 Lib.goPrintTabs w ∧ Lib.Utf8Tabs 3 4 w
theorem quote_spec {St : Nat → Prop} {w : World} (s : ByteArray) (hs : s.size ≤ 1048576) (hq : (Fz tabsQ).p St w) : Calls Tryd.prog 36 #[.string s] w (Ret fun v w' => Ext w w' ∧ v = .string (quoB Lib.goPrintTabs s)) :=
 (Any.strconv_Quote Tryd.lays177 (by kernel_rfl) Lib.goPrintTabs s w (by omega) (Fz.of hq).1 (Fz.of hq).2).mono fun e w' h => ⟨_, h.1, h.2, rfl⟩
theorem itoa_spec {w : World} (i : Nat) (hi : i < 100) : Calls Tryd.prog 27 #[.int .i64 (i : Int)] w (Ret fun v w' => Ext w w' ∧ v = .string (digB i)) :=
 (Any.strconv_Itoa_small Tryd.lays171 i hi w).mono fun e w' h => by
  obtain ⟨rfl, rfl⟩ := h
  exact ⟨_, rfl, Ext.refl _, rfl⟩
theorem clone_spec {St : Nat → Prop} {w : World} {tb c : Nat} {L : List (ByteArray × ByteArray × Nat)} (hb : w.heap[tb]? = some (mapO Value.string Value.string L c)) : Calls Tryd.prog 31 #[.map (some tb)] w (Ret fun v w' => Ext w w' ∧ ∃ b, v = .map (some b) ∧ Hp w St [] [(b, mapO Value.string Value.string L c)] [] [] w') :=
 (AnyW.maps_Clone Tryd.clone31 tb _ c w hb).mono fun e w' h => by
  obtain ⟨rfl, rfl⟩ := h
  have hH := (Hp.startF (w := w) (S := St) (G := []) Facts.nil).alloc (mapO Value.string Value.string L c)
  exact ⟨_, rfl, hH.done, _, rfl, hH⟩
theorem quo_size (T : Lib.PrintTabs) (s : ByteArray) : (quoB T s).size ≤ 10 * s.size + 2 := by
 unfold quoB
 rw [strOfNums_size]
 exact Lib.quoteZ_length_le T s
theorem pairs_snoc (T : Lib.PrintTabs) (p : ByteArray × ByteArray) : ∀ (S : Tb), pairsB T (S ++ [p]) = pairsB T S ++ (quoB T p.1 ++ quoB T p.2)
 | [] => by
  show (quoB T p.1 ++ quoB T p.2) ++ ByteArray.empty = ByteArray.empty ++ (quoB T p.1 ++ quoB T p.2)
  rw [ByteArray.append_empty, ByteArray.empty_append]
 | q :: r => by rw [List.cons_append, pairsB, pairs_snoc T p r, pairsB, ← ByteArray.append_assoc (a := quoB T q.1 ++ quoB T q.2)]
theorem left_snoc (i : Nat) : ∀ (l : List Nat), leftB (l ++ [i]) = leftB l ++ (digB i ++ (⟨#[32]⟩ : ByteArray))
 | [] => by
  show (digB i ++ (⟨#[32]⟩ : ByteArray)) ++ ByteArray.empty = ByteArray.empty ++ (digB i ++ (⟨#[32]⟩ : ByteArray))
  rw [ByteArray.append_empty, ByteArray.empty_append]
 | q :: r => by rw [List.cons_append, leftB, left_snoc i r, leftB, ← ByteArray.append_assoc (a := digB q ++ (⟨#[32]⟩ : ByteArray))]
theorem pairs_size (T : Lib.PrintTabs) : ∀ {S : Tb}, (∀ p ∈ S, p.1.size ≤ 1048576 ∧ p.2.size ≤ 1048576) → (pairsB T S).size ≤ S.length * 20971524
 | [], _ => by simp [pairsB]
 | p :: r, h => by
  have h1 := quo_size T p.1
  have h2 := quo_size T p.2
  have h3 := h p (List.mem_cons_self ..)
  have h4 := pairs_size T (S := r) fun q hq => h q (List.mem_cons_of_mem _ hq)
  rw [pairsB, ByteArray.size_append, ByteArray.size_append, List.length_cons]
  omega
theorem dig_size {i : Nat} (h : i < 100) : (digB i).size ≤ 2 := by
 have : (bz (digB i)).length = (digB i).size := by unfold bz toZ; rw [List.length_map]; exact size_list _
 rw [← this, dig_bytes h]
 split <;> simp
theorem left_size : ∀ {l : List Nat}, (∀ i ∈ l, i < 100) → (leftB l).size ≤ l.length * 3
 | [], _ => by simp [leftB]
 | i :: r, h => by
  have h1 := dig_size (h i (List.mem_cons_self ..))
  have h2 := left_size (l := r) fun q hq => h q (List.mem_cons_of_mem _ hq)
  have h3 : ((⟨#[32]⟩ : ByteArray)).size = 1 := rfl
  rw [leftB, ByteArray.size_append, ByteArray.size_append, List.length_cons, h3]
  omega
theorem tget_at {S : Tb} (h : (S.map (·.1)).Nodup) {k : Nat} (hk : k < S.length) : tget S S[k].1 = some S[k].2 := (tget_mem h).2 (List.getElem_mem hk)
end Go.Proofs.YtcodkepdolmmbaaDoor
