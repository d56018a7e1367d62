import Derived.Test.YtdnibpclkhenmaaGreatDoorSG5
import Derived.Test.YtdnibpclkhenmaaGreatDoorSBxB
namespace Go.Proofs.YtdnibpclkhenmaaGreatDoor
open Go.BX
def nmC (l : List StepD) : Nat := (l.filter fun s => decide (s.kind ≠ 3)).length
theorem nmC_yes {l : List StepD} {k : Nat} (h : k < l.length) (hk : l[k].kind ≠ 3) : nmC (l.take (k + 1)) = nmC (l.take k) + 1 := by
 unfold nmC
 rw [take_snoc h, List.filter_append, List.length_append, List.filter_cons_of_pos (by simpa using hk)]; rfl
theorem nmC_no {l : List StepD} {k : Nat} (h : k < l.length) (hk : l[k].kind = 3) : nmC (l.take (k + 1)) = nmC (l.take k) := by
 unfold nmC
 rw [take_snoc h, List.filter_append, List.length_append, List.filter_cons_of_neg (by simpa using hk)]; rfl
theorem nmC_le (l : List StepD) (k : Nat) : nmC (l.take k) ≤ l.length := Nat.le_trans (List.length_filter_le _ _) (by rw [List.length_take]; omega)
def bitOf (keep : List (BitVec 8)) (j : Nat) : Bool := match keep[j / 8]? with
 | some x => decide ((((x >>> (j % 8) &&& 1#8).toNat : Nat) : Int) > 0)
 | none => false
def updO (fs : List FileD) (o : Option Nat) (g : FileD → FileD) : List FileD := match o with
 | some p => updF fs p g
 | none => fs
structure CrS where
 A : NameL × Nat
 i : Nat
 j : Nat
 fs : List FileD
def crStep (first : Int) (keep : List (BitVec 8)) (C : CrS) (x : StepD) : CrS :=
 if x.kind = 3 then ⟨C.A, C.i, C.j + 1, if bitOf keep C.j then updO C.fs x.file (putS x.at_ x.data) else C.fs⟩
 else ⟨if (C.i : Int) < first then mapN C.A x else C.A, C.i + 1, C.j, C.fs⟩
def crAt (first : Int) (keep : List (BitVec 8)) (A : NameL × Nat) (fs : List FileD) (l : List StepD) : CrS := l.foldl (crStep first keep) ⟨A, 0, 0, fs⟩
theorem crAt_step {first : Int} {keep : List (BitVec 8)} {A : NameL × Nat} {fs : List FileD} {l : List StepD} {k : Nat} (h : k < l.length) : crAt first keep A fs (l.take (k + 1)) = crStep first keep (crAt first keep A fs (l.take k)) l[k] := by
 unfold crAt
 rw [take_snoc h, List.foldl_append]; rfl
def sizeX (X : SecM) : Int := X.foldl (fun m e => if e.1 + 1 > m then e.1 + 1 else m) 0
theorem sizeX_snoc (X : SecM) (e : Int × Sec × Nat) : sizeX (X ++ [e]) = if e.1 + 1 > sizeX X then e.1 + 1 else sizeX X := by
 unfold sizeX
 rw [List.foldl_append]; rfl
theorem sizeX_spec (X : SecM) : 0 ≤ sizeX X ∧ (∀ e ∈ X, e.1 + 1 ≤ sizeX X) ∧ (sizeX X = 0 ∨ ∃ e ∈ X, sizeX X = e.1 + 1) := by
 have h : ∀ (X : SecM) (m : Int), 0 ≤ m → m ≤ X.foldl (fun m e => if e.1 + 1 > m then e.1 + 1 else m) m ∧ (∀ e ∈ X, e.1 + 1 ≤ X.foldl (fun m e => if e.1 + 1 > m then e.1 + 1 else m) m) ∧
  (X.foldl (fun m e => if e.1 + 1 > m then e.1 + 1 else m) m = m ∨ ∃ e ∈ X, X.foldl (fun m e => if e.1 + 1 > m then e.1 + 1 else m) m = e.1 + 1) := by
  intro X
  induction X with
  | nil => intro m hm; exact ⟨Int.le_refl _, fun e he => (by cases he), .inl rfl⟩
  | cons e X ih =>
   intro m hm
   simp only [List.foldl_cons]
   by_cases hc : e.1 + 1 > m
   · rw [if_pos hc]
     obtain ⟨h1, h2, h3⟩ := ih (e.1 + 1) (by omega)
     refine ⟨by omega, fun x hx => ?_, ?_⟩
     · rcases List.mem_cons.1 hx with rfl | hx
       · exact h1
       · exact h2 x hx
     · rcases h3 with h3 | ⟨x, hx, h3⟩
       · exact .inr ⟨e, List.mem_cons_self .., h3⟩
       · exact .inr ⟨x, List.mem_cons_of_mem _ hx, h3⟩
   · rw [if_neg hc]
     obtain ⟨h1, h2, h3⟩ := ih m hm
     refine ⟨h1, fun x hx => ?_, ?_⟩
     · rcases List.mem_cons.1 hx with rfl | hx
       · omega
       · exact h2 x hx
     · rcases h3 with h3 | ⟨x, hx, h3⟩
       · exact .inl h3
       · exact .inr ⟨x, List.mem_cons_of_mem _ hx, h3⟩
 have := h X 0 (by omega)
 exact this
theorem sizeX_perm {X Y : SecM} (h : X.Perm Y) : sizeX X = sizeX Y := by
 obtain ⟨a1, a2, a3⟩ := sizeX_spec X
 obtain ⟨b1, b2, b3⟩ := sizeX_spec Y
 have h1 : sizeX X ≤ sizeX Y := by
  rcases a3 with a3 | ⟨e, he, a3⟩
  · omega
  · have := b2 e (h.mem_iff.1 he); omega
 have h2 : sizeX Y ≤ sizeX X := by
  rcases b3 with b3 | ⟨e, he, b3⟩
  · omega
  · have := a2 e (h.mem_iff.2 he); omega
 omega
def visit (n : Nat) (f : FileD) : FileD := { f with n := n, now := f.safe, nc := f.sc, size := sizeX f.safe }
def crF (fs : List FileD) (dn : NameL) (ns : Nat → Nat) : List FileD := fs.map fun f => if some f.p ∈ dn.map (·.2.1) then visit (ns f.p) f else f
theorem crF_nil (fs : List FileD) (ns : Nat → Nat) : crF fs [] ns = fs := by
 unfold crF
 simp
theorem crF_ps (fs : List FileD) (dn : NameL) (ns : Nat → Nat) : psOf (crF fs dn ns) = psOf fs := by
 unfold psOf crF
 rw [List.map_map]
 apply List.map_congr_left
 intro f _
 simp only [Function.comp_apply]
 split <;> rfl
theorem crF_step (fs : List FileD) (dn : NameL) (ns : Nat → Nat) (p n : Nat) (e : ByteArray × Option Nat × Nat) (he : e.2.1 = some p) : updF (crF fs dn ns) p (visit n) = crF fs (dn ++ [e]) (fun q => if q = p then n else ns q) := by
 unfold updF crF
 rw [List.map_map]
 apply List.map_congr_left
 intro f _
 simp only [Function.comp_apply, List.map_append, List.map_cons, List.map_nil, List.mem_append, List.mem_singleton, he, Option.some.injEq]
 by_cases h1 : some f.p ∈ dn.map (·.2.1)
 · rw [if_pos h1]
   have hp : (visit (ns f.p) f).p = f.p := rfl
   by_cases h2 : f.p = p
   · rw [if_pos (hp.trans h2), if_pos (.inl h1), if_pos h2]; rfl
   · rw [if_neg (fun h => h2 (hp.symm.trans h)), if_pos (.inl h1), if_neg h2]
 · rw [if_neg h1]
   by_cases h2 : f.p = p
   · rw [if_pos h2, if_pos (.inr h2), if_pos h2]
   · rw [if_neg h2, if_neg (fun h => h.elim h1 h2)]
theorem crF_perm (fs : List FileD) {dn A : NameL} (h : dn.Perm A) (ns : Nat → Nat) : crF fs dn ns = crF fs A ns := by
 unfold crF
 apply List.map_congr_left
 intro f _
 have hm : some f.p ∈ dn.map (·.2.1) ↔ some f.p ∈ A.map (·.2.1) := (h.map _).mem_iff
 by_cases h1 : some f.p ∈ dn.map (·.2.1)
 · rw [if_pos h1, if_pos (hm.1 h1)]
 · rw [if_neg h1, if_neg (fun h => h1 (hm.2 h))]
def FileOk (f : FileD) : Prop := MOk f.safe f.sc ∧ MOk f.now f.nc ∧ (∀ e ∈ f.safe, 0 ≤ e.1 ∧ e.1 < 65536) ∧ (∀ e ∈ f.now, 0 ≤ e.1 ∧ e.1 < 65536) ∧ 0 ≤ f.size ∧ f.size ≤ 65536
def FilesOk (fs : List FileD) : Prop := ∀ f ∈ fs, FileOk f
theorem mset_at {X : SecM} {x : Int} {v : Sec} {c : Nat} {e : Int × Sec × Nat} (h : e ∈ mset x v c X) : e.1 = x ∨ ∃ e' ∈ X, e'.1 = e.1 := by
 have hk : e.1 ∈ (mset x v c X).map (·.1) := List.mem_map.2 ⟨e, h, rfl⟩
 rw [mset_keys] at hk
 split at hk
 · obtain ⟨e', he, hx⟩ := List.mem_map.1 hk
   exact .inr ⟨e', he, hx⟩
 · rcases List.mem_append.1 hk with hk | hk
   · obtain ⟨e', he, hx⟩ := List.mem_map.1 hk
     exact .inr ⟨e', he, hx⟩
   · exact .inl (by simpa using hk)
theorem FileOk.putS {f : FileD} (h : FileOk f) {at_ : Int} (ha : 0 ≤ at_ ∧ at_ < 65536) (x : Sec) : FileOk (putS at_ x f) := by
 obtain ⟨h1, h2, h3, h4, h5⟩ := h
 refine ⟨h1.set at_ x, h2, fun e he => ?_, h4, h5⟩
 rcases mset_at he with e1 | ⟨e', he', e1⟩
 · omega
 · have := h3 e' he'; omega
theorem FileOk.putB {f : FileD} (h : FileOk f) {at_ : Int} (ha : 0 ≤ at_ ∧ at_ < 65536) (x : Sec) : FileOk (putB at_ x f) := by
 obtain ⟨h1, h2, h3, h4, h5, h6⟩ := h
 refine ⟨h1, h2.set at_ x, h3, fun e he => ?_, ?_, ?_⟩
 · rcases mset_at he with e1 | ⟨e', he', e1⟩
   · omega
   · have := h4 e' he'; omega
 · show 0 ≤ if at_ + 1 > f.size then at_ + 1 else f.size
   split <;> omega
 · show (if at_ + 1 > f.size then at_ + 1 else f.size) ≤ 65536
   split <;> omega
theorem FilesOk.updF {fs : List FileD} (h : FilesOk fs) {p : Nat} {g : FileD → FileD} (hg : ∀ f, FileOk f → FileOk (g f)) : FilesOk (updF fs p g) := by
 intro f hf
 obtain ⟨f', hf', rfl⟩ := List.mem_map.1 hf
 split
 · exact hg _ (h _ hf')
 · exact h _ hf'
theorem FileOk.visit {f : FileD} (h : FileOk f) (n : Nat) : FileOk (visit n f) := by
 obtain ⟨h1, h2, h3, h4, h5, h6⟩ := h
 obtain ⟨s1, s2, s3⟩ := sizeX_spec f.safe
 refine ⟨h1, h1, h3, h3, s1, ?_⟩
 show sizeX f.safe ≤ 65536
 rcases s3 with s3 | ⟨e, he, s3⟩
 · omega
 · have := h3 e he; omega
theorem FilesOk.crF {fs : List FileD} (h : FilesOk fs) (dn : NameL) (ns : Nat → Nat) : FilesOk (crF fs dn ns) := by
 intro f hf
 obtain ⟨f', hf', rfl⟩ := List.mem_map.1 hf
 split
 · exact (h _ hf').visit _
 · exact h _ hf'
theorem mapN_ok {L : NameL × Nat} (h : MOk L.1 L.2) (s : StepD) : MOk (mapN L s).1 (mapN L s).2 := by
 unfold mapN
 split
 · exact h.set _ _
 · split
   · exact (h.set _ _).del _
   · split
     · exact h.del _
     · exact h
theorem ps_nodup2 {w0 w : World} {S : Nat → Prop} {O : List Nat} {M : Heap} {W : List OwnS} {G : List Fact} {fs : List FileD} (H : Hp w0 S O M W G w) (pre : Heap) (h : pre ++ filesH fs = M) : (psOf fs).Nodup := by
 subst h
 have H2 : Hp w0 S O (pre ++ filesH fs ++ []) W G w := by rw [List.append_nil]; exact H
 exact ps_nodup H2
structure CrOk (A : NameL × Nat) (fs : List FileD) (steps : List StepD) : Prop where
 map : MOk A.1 A.2
 good : ∀ k, ∀ e ∈ ((steps.take k).foldl mapN A).1, ∃ p, e.2.1 = some p ∧ p ∈ psOf fs
 wr : ∀ x ∈ steps, x.kind = 3 → ∃ q, x.file = some q ∧ q ∈ psOf fs
 inn : ∀ x ∈ steps, StepIn x
 files : FilesOk fs
theorem crAt_A (first : Int) (keep : List (BitVec 8)) (A : NameL × Nat) (fs : List FileD) (l : List StepD) :
 ∃ m, (crAt first keep A fs l).A = (l.take m).foldl mapN A ∧ (((crAt first keep A fs l).i : Int) ≤ first → (crAt first keep A fs l).A = l.foldl mapN A) := by
 have h : ∀ (k : Nat), k ≤ l.length → ∃ m, m ≤ k ∧ (crAt first keep A fs (l.take k)).A = (l.take m).foldl mapN A ∧ (((crAt first keep A fs (l.take k)).i : Int) ≤ first → (crAt first keep A fs (l.take k)).A = (l.take k).foldl mapN A) := by
  intro k
  induction k with
  | zero => intro _; exact ⟨0, Nat.le_refl _, rfl, fun _ => rfl⟩
  | succ k ih =>
   intro hk
   obtain ⟨m, hm, h1, h2⟩ := ih (by omega)
   have hlt : k < l.length := by omega
   rw [crAt_step hlt]
   unfold crStep
   by_cases h3 : l[k].kind = 3
   · rw [if_pos h3]
     refine ⟨m, by omega, h1, fun hi => ?_⟩
     rw [syncN_skip hlt h3]
     exact h2 hi
   · rw [if_neg h3]
     by_cases h4 : ((crAt first keep A fs (l.take k)).i : Int) < first
     · simp only [h4, if_true]
       have e := h2 (by omega)
       refine ⟨k + 1, Nat.le_refl _, ?_, fun _ => ?_⟩
       · rw [syncN_step hlt, e]
       · rw [syncN_step hlt, e]
     · simp only [h4, if_false]
       exact ⟨m, by omega, h1, fun hi => by push_cast at hi; omega⟩
 obtain ⟨m, -, h1, h2⟩ := h l.length (Nat.le_refl _)
 rw [List.take_length] at h1 h2
 exact ⟨m, h1, h2⟩
theorem foldN_ok {A : NameL × Nat} (h : MOk A.1 A.2) (l : List StepD) : MOk (l.foldl mapN A).1 (l.foldl mapN A).2 := by
 induction l generalizing A with
 | nil => exact h
 | cons s l ih => exact ih (mapN_ok h s)
theorem crStep_no {first : Int} {keep : List (BitVec 8)} {C : CrS} {x : StepD} (h : x.kind = 3) (hb : bitOf keep C.j = false) : crStep first keep C x = ⟨C.A, C.i, C.j + 1, C.fs⟩ := by
 unfold crStep
 rw [if_pos h, hb]; rfl
theorem crStep_name {first : Int} {keep : List (BitVec 8)} {C : CrS} {x : StepD} (h : x.kind ≠ 3) (hb : (C.i : Int) < first) : crStep first keep C x = ⟨mapN C.A x, C.i + 1, C.j, C.fs⟩ := by
 unfold crStep
 rw [if_neg h, if_pos hb]
theorem crStep_pass {first : Int} {keep : List (BitVec 8)} {C : CrS} {x : StepD} (h : x.kind ≠ 3) (hb : ¬ (C.i : Int) < first) : crStep first keep C x = ⟨C.A, C.i + 1, C.j, C.fs⟩ := by
 unfold crStep
 rw [if_neg h, if_neg hb]
theorem cloneN {S : Nat → Prop} {w : World} {O : List Nat} {m c : Nat} {L : NameL} (H0 : Hp w S O [(m, mapO Value.string ptrV L c)] [] [] w) :
 Calls Tryz.prog 65 #[.map (some m)] w (Ret fun v w' => ∃ n : Nat, v = .map (some n) ∧ Hp w S O [(n, mapO Value.string ptrV L c), (m, mapO Value.string ptrV L c)] [] [] w') := by
 refine qS (fn := Tryz.f65) (n := 9) (σ := [(0, .map (some m))]) Tryz.func65 ?_
 have H := H0
 refine qR 8 [.c [2, 0], .c [3]] [(0, .map (some m))] ?_
 refine qG (sq 0 5) ?_
 refine qP 2 (sq 2 5) [(6, .iface 36 (.map (some m)))] ?_
 refine RW.cloneM (κ := .seq) (d := some 7) (r := (sq 3 5)) (f := 120) (fn := Tryz.f120) (t := 36) (b := m) (mk := Value.string) (vk := ptrV) (by as_aux_lemma => kernel_rfl) (nofun) Tryz.func120 (by as_aux_lemma => kernel_rfl) (by as_aux_lemma => kernel_rfl) (by as_aux_lemma => kernel_rfl) (by as_aux_lemma => kernel_rfl) H 0 rfl ?_
 intro b1 w2 H
 refine qF 2 [(2, .map (some b1))] ?_
 refine qT (.map (some b1)) Tryz.func65 ?_
 exact ⟨_, rfl, b1, rfl, H⟩
theorem cloneX {S : Nat → Prop} {w : World} {O : List Nat} {m c : Nat} {L : SecM} (H0 : Hp w S O [(m, mapO (Value.int .i64) secVal L c)] [] [] w) :
 Calls Tryz.prog 66 #[.map (some m)] w (Ret fun v w' => ∃ n : Nat, v = .map (some n) ∧ Hp w S O [(n, mapO (Value.int .i64) secVal L c), (m, mapO (Value.int .i64) secVal L c)] [] [] w') := by
 refine qS (fn := Tryz.f66) (n := 9) (σ := [(0, .map (some m))]) Tryz.func66 ?_
 have H := H0
 refine qR 8 [.c [2, 0], .c [3]] [(0, .map (some m))] ?_
 refine qG (sq 0 5) ?_
 refine qP 2 (sq 2 5) [(6, .iface 145 (.map (some m)))] ?_
 refine RW.cloneM (κ := .seq) (d := some 7) (r := (sq 3 5)) (f := 120) (fn := Tryz.f120) (t := 145) (b := m) (mk := (Value.int .i64)) (vk := secVal) (by as_aux_lemma => kernel_rfl) (nofun) Tryz.func120 (by as_aux_lemma => kernel_rfl) (by as_aux_lemma => kernel_rfl) (by as_aux_lemma => kernel_rfl) (by as_aux_lemma => kernel_rfl) H 0 rfl ?_
 intro b1 w2 H
 refine qF 2 [(2, .map (some b1))] ?_
 refine qT (.map (some b1)) Tryz.func66 ?_
 exact ⟨_, rfl, b1, rfl, H⟩
set_option maxHeartbeats 4000000 in
theorem crash_nil {S : Nat → Prop} {w : World} {O : List Nat} {db sb nb sk c lc ca : Nat} {sa a : Option Addr} {L A : NameL} {fs : List FileD} {steps : List StepD} {armed : Bool} {left : Int} {dead : Bool} (hst : steps.length ≤ 1000000000) (hok : CrOk (A, lc) fs steps) (H0 : Hp w S O ((db, .cells #[.bool true, .map (some sb), .map (some nb), .slice sa steps.length sk, .bool armed, .I left, .bool dead] 39 (0, 0)) :: (nb, mapO Value.string ptrV L c) :: (sb, mapO Value.string ptrV A lc) :: (filesH fs)) [⟨stepS, 143, .slice sa steps.length sk, steps⟩] [] w) :
 Calls Tryz.prog 25 #[.P db 0, .slice a 0 ca] w (Ret fun v w' => v = .tuple #[] ∧ ∃ (C : CrS) (ns : Nat → Nat) (nb2 : Nat), C = crAt 0 ([] : List (BitVec 8)) (A, lc) fs steps ∧ Hp w S O ((db, .cells #[.bool true, .map (some sb), .map (some nb2), .slice none 0 0, .bool false, .I left, .bool false] 39 (0, 0)) :: (nb2, mapO Value.string ptrV C.A.1 C.A.2) :: (sb, mapO Value.string ptrV C.A.1 C.A.2) :: filesH (crF C.fs C.A.1 ns)) [⟨stepS, 143, .slice none 0 0, ([] : List StepD)⟩] [] w') := by
 refine qS (fn := Tryz.f25) (n := 158) (σ := [(0, .P db 0), (1, .slice a 0 ca)]) Tryz.func25 ?_
 have H := H0
 refine qR 2 [.c [0, 0], .c [0, 1], .c [1]] [(0, .P db 0), (1, .slice a 0 ca)] ?_
 refine qG (sq 0 9) ?_
 refine qP 6 (sq 6 9) [(0, .P db 0), (1, .slice a 0 ca), (16, .bool false), (19, .P db 0)] ?_
 refine qL .seq 20 (sq 7 9) 4 db 0 0 (.bool true) (H.cells 0 rfl) ?_
 refine qF 2 [(0, .P db 0), (1, .slice a 0 ca), (22, .bool false)] ?_
 refine qR 6 [.c [2, 0, 0], .c [2, 0, 1], .c [3]] [(0, .P db 0), (1, .slice a 0 ca), (4, .I 0)] ?_
 refine qG (sq 0 6) ?_
 refine qP 3 (sq 3 6) [(0, .P db 0), (1, .slice a 0 ca), (4, .I 0), (25, .P db 3)] ?_
 refine qL .seq 26 (sq 4 6) 37 db 3 3 (.slice sa steps.length sk) (H.cells 0 rfl) ?_
 refine qF 2 [(0, .P db 0), (1, .slice a 0 ca), (4, .I 0), (26, .slice sa steps.length sk), (27, .I ((steps.length : Nat) : Int)), (28, .I 0)] ?_
 refine qR 1 [.c [2, 0, 1, 0], .b 0, .c [3]] [(0, .P db 0), (1, .slice a 0 ca), (4, .I 0), (26, .slice sa steps.length sk), (27, .I ((steps.length : Nat) : Int)), (28, .I 0)] ?_
 refine WK.loop (α := Nat) (b := cd Tryz.prog 25 [2, 0, 1, 0, 0]) (by as_aux_lemma => kernel_rfl) (fun k => [(0, .P db 0), (1, .slice a 0 ca), (4, .I ((nmC (steps.take k) : Nat) : Int)), (26, .slice sa steps.length sk), (27, .I ((steps.length : Nat) : Int)), (28, .I k)]) (fun k w' => Hp w S O ((db, .cells #[.bool true, .map (some sb), .map (some nb), .slice sa steps.length sk, .bool armed, .I left, .bool dead] 39 (0, 0)) :: (nb, mapO Value.string ptrV L c) :: (sb, mapO Value.string ptrV A lc) :: (filesH fs)) [⟨stepS, 143, .slice sa steps.length sk, steps⟩] [] w' ∧ k ≤ steps.length) (fun k => steps.length - k) 0 ⟨H, Nat.zero_le _⟩ (rfl) ?_
 rintro k w2 ⟨H, hinv0⟩ hback1
 have hnl0 := nmC_le steps k
 refine qR 3 [.c [2, 0, 1, 0, 0, 1, 0], .c [2, 0, 1, 0, 0, 2], .l [2, 0, 1, 0, 0], .b 0, .c [3]] [(0, .P db 0), (1, .slice a 0 ca), (4, .I ((nmC (steps.take k) : Nat) : Int)), (26, .slice sa steps.length sk), (27, .I ((steps.length : Nat) : Int)), (28, .I k), (29, .bool (decide (((k : Int) : Int) < ((steps.length : Nat) : Int))))] ?_
 refine qD (((k : Int) : Int) < ((steps.length : Nat) : Int)) (fun h3 => ?_) (fun h3 => ?_)
 ·
  refine qR 4 [.c [2, 0, 1, 0, 0, 2, 0, 0, 0], .c [2, 0, 1, 0, 0, 2, 0, 0, 1], .b 1, .c [2, 0, 1, 0, 0, 3], .l [2, 0, 1, 0, 0], .b 0, .c [3]] [(0, .P db 0), (1, .slice a 0 ca), (4, .I ((nmC (steps.take k) : Nat) : Int)), (26, .slice sa steps.length sk), (27, .I ((steps.length : Nat) : Int)), (28, .I k)] ?_
  refine qG (sq 0 4) ?_
  have hn5 : steps.length = steps.length := rfl
  have hx4 : k < steps.length := by omega
  refine RW.indexW (κ := .seq) (d := some 30) (r := (sq 1 4)) (T := 37) (e := 143) (m := 69) (ik := .i64) (ix := (k : Int)) (sh := stepS) (xs := steps) (a := sa) (len := steps.length) (cap := sk) (by as_aux_lemma => kernel_rfl) (by as_aux_lemma => kernel_rfl) rfl H k (by omega) hx4 hn5 ?_
  intro b6 es7 ha8 hcell9 hr10
  obtain ⟨rfl, hst11⟩ := hr10
  refine qL .seq 31 (sq 2 4) 143 b6 (k * 69) 0 (.agg (stepC (steps[k])).toArray) hcell9 ?_
  refine qB .seq 6 (sq 3 4) ((stepC (⟨0, none, (⟨#[]⟩ : ByteArray), (⟨#[]⟩ : ByteArray), 0, zeroSec⟩ : StepD)).toArray) 143 H ?_
  intro b12 w13 H
  refine qW 143 b12 0 (sq 4 4) (.agg (stepC (steps[k])).toArray) ((b12, .cells (stepC (steps[k])).toArray 143 (0, 0)) :: (db, .cells #[.bool true, .map (some sb), .map (some nb), .slice sa steps.length sk, .bool armed, .I left, .bool dead] 39 (0, 0)) :: (nb, mapO Value.string ptrV L c) :: (sb, mapO Value.string ptrV A lc) :: (filesH fs)) H 0 rfl rfl ?_
  intro w14 H
  refine qF 0 [(0, .P db 0), (1, .slice a 0 ca), (4, .I ((nmC (steps.take k) : Nat) : Int)), (6, .P b12 0), (26, .slice sa steps.length sk), (27, .I ((steps.length : Nat) : Int)), (28, .I k)] ?_
  refine qR 1 [.c [2, 0, 1, 0, 0, 2, 0, 0, 1, 0], .c [2, 0, 1, 0, 0, 2, 0, 0, 2], .b 1, .c [2, 0, 1, 0, 0, 3], .l [2, 0, 1, 0, 0], .b 0, .c [3]] [(0, .P db 0), (1, .slice a 0 ca), (4, .I ((nmC (steps.take k) : Nat) : Int)), (6, .P b12 0), (26, .slice sa steps.length sk), (27, .I ((steps.length : Nat) : Int)), (28, .I k)] ?_
  refine qG (sq 0 3) ?_
  refine qP 1 (sq 1 3) [(0, .P db 0), (1, .slice a 0 ca), (4, .I ((nmC (steps.take k) : Nat) : Int)), (26, .slice sa steps.length sk), (27, .I ((steps.length : Nat) : Int)), (28, .I k), (32, .P b12 0)] ?_
  refine qL .seq 33 (sq 2 3) 138 b12 0 0 (.I ((steps[k]).kind)) (H.cells 0 rfl) ?_
  refine qF 1 [(0, .P db 0), (1, .slice a 0 ca), (4, .I ((nmC (steps.take k) : Nat) : Int)), (26, .slice sa steps.length sk), (27, .I ((steps.length : Nat) : Int)), (28, .I k), (34, .bool (((steps[k]).kind) != 3))] ?_
  refine qN ((steps[k]).kind) 3 (fun h15 => ?_) (fun h15 => ?_)
  ·
   refine qG (sq 0 3) ?_
   refine qP 1 (sq 1 3) [(0, .P db 0), (1, .slice a 0 ca), (4, .I ((nmC (steps.take k) : Nat) : Int)), (26, .slice sa steps.length sk), (27, .I ((steps.length : Nat) : Int)), (28, .I k), (35, .I ((nmC (steps.take k) : Nat) : Int))] ?_
   refine qI .seq 36 (sq 2 3) (((nmC (steps.take k) : Nat) : Int) + 1) ?_
   refine qF 1 [(0, .P db 0), (1, .slice a 0 ca), (4, .I (((nmC (steps.take k) : Nat) : Int) + 1)), (26, .slice sa steps.length sk), (27, .I ((steps.length : Nat) : Int)), (28, .I k)] ?_
   refine qR 1 [.c [2, 0, 1, 0, 0, 3], .l [2, 0, 1, 0, 0], .b 0, .c [3]] [(0, .P db 0), (1, .slice a 0 ca), (4, .I (((nmC (steps.take k) : Nat) : Int) + 1)), (26, .slice sa steps.length sk), (27, .I ((steps.length : Nat) : Int)), (28, .I k)] ?_
   refine qG (sq 0 2) ?_
   refine qI .seq 37 (sq 1 2) ((k : Int) + 1) ?_
   refine qF 1 [(0, .P db 0), (1, .slice a 0 ca), (4, .I (((nmC (steps.take k) : Nat) : Int) + 1)), (26, .slice sa steps.length sk), (27, .I ((steps.length : Nat) : Int)), (28, .I ((k : Int) + 1))] ?_
   have eN := nmC_yes hx4 h15
   rw [show (((nmC (steps.take k) : Nat) : Int) + 1 : Int) = ((nmC (steps.take (k + 1)) : Nat) : Int) by rw [eN]; push_cast; rfl]
   have H := H.drop (M' := ((db, .cells #[.bool true, .map (some sb), .map (some nb), .slice sa steps.length sk, .bool armed, .I left, .bool dead] 39 (0, 0)) :: (nb, mapO Value.string ptrV L c) :: (sb, mapO Value.string ptrV A lc) :: (filesH fs))) (W' := [⟨stepS, 143, .slice sa steps.length sk, steps⟩]) (by repeat (first | exact List.Sublist.refl _ | apply List.Sublist.cons_cons | apply List.Sublist.cons)) (by repeat (first | exact List.Sublist.refl _ | apply List.Sublist.cons_cons | apply List.Sublist.cons))
   exact WK.back (hback1 (k + 1) _ ⟨H, by omega⟩ (by first | omega | (simp only []; omega))) (by as_aux_lemma => kernel_rfl)
  ·
   refine qR 2 [.c [2, 0, 1, 0, 0, 3], .l [2, 0, 1, 0, 0], .b 0, .c [3]] [(0, .P db 0), (1, .slice a 0 ca), (4, .I ((nmC (steps.take k) : Nat) : Int)), (26, .slice sa steps.length sk), (27, .I ((steps.length : Nat) : Int)), (28, .I k)] ?_
   refine qG (sq 0 2) ?_
   refine qI .seq 37 (sq 1 2) ((k : Int) + 1) ?_
   refine qF 1 [(0, .P db 0), (1, .slice a 0 ca), (4, .I ((nmC (steps.take k) : Nat) : Int)), (26, .slice sa steps.length sk), (27, .I ((steps.length : Nat) : Int)), (28, .I ((k : Int) + 1))] ?_
   have eN := nmC_no hx4 h15
   rw [show (((nmC (steps.take k) : Nat) : Int) : Int) = ((nmC (steps.take (k + 1)) : Nat) : Int) by rw [eN]]
   have H := H.drop (M' := ((db, .cells #[.bool true, .map (some sb), .map (some nb), .slice sa steps.length sk, .bool armed, .I left, .bool dead] 39 (0, 0)) :: (nb, mapO Value.string ptrV L c) :: (sb, mapO Value.string ptrV A lc) :: (filesH fs))) (W' := [⟨stepS, 143, .slice sa steps.length sk, steps⟩]) (by repeat (first | exact List.Sublist.refl _ | apply List.Sublist.cons_cons | apply List.Sublist.cons)) (by repeat (first | exact List.Sublist.refl _ | apply List.Sublist.cons_cons | apply List.Sublist.cons))
   exact WK.back (hback1 (k + 1) _ ⟨H, by omega⟩ (by first | omega | (simp only []; omega))) (by as_aux_lemma => kernel_rfl)
 ·
  refine qR 14 [.c [7, 0, 0], .c [7, 0, 1], .c [8]] [(0, .P db 0), (1, .slice a 0 ca), (4, .I 0), (7, .I 0), (8, .I 0)] ?_
  refine qG (sq 0 6) ?_
  refine qP 3 (sq 3 6) [(0, .P db 0), (1, .slice a 0 ca), (4, .I 0), (7, .I 0), (8, .I 0), (52, .P db 3)] ?_
  refine qL .seq 53 (sq 4 6) 37 db 3 3 (.slice sa steps.length sk) (H.cells 0 rfl) ?_
  refine qF 2 [(0, .P db 0), (1, .slice a 0 ca), (4, .I 0), (7, .I 0), (8, .I 0), (53, .slice sa steps.length sk), (54, .I ((steps.length : Nat) : Int)), (55, .I 0)] ?_
  refine qR 1 [.c [7, 0, 1, 0], .b 2, .c [8]] [(0, .P db 0), (1, .slice a 0 ca), (4, .I 0), (7, .I 0), (8, .I 0), (53, .slice sa steps.length sk), (54, .I ((steps.length : Nat) : Int)), (55, .I 0)] ?_
  obtain ⟨C0, hC0⟩ : ∃ z : CrS, z = ⟨(A, lc), 0, 0, fs⟩ := ⟨_, rfl⟩
  have H : Hp w S O ((db, .cells #[.bool true, .map (some sb), .map (some nb), .slice sa steps.length sk, .bool armed, .I left, .bool dead] 39 (0, 0)) :: (nb, mapO Value.string ptrV L c) :: (sb, mapO Value.string ptrV C0.A.1 C0.A.2) :: (filesH C0.fs)) [⟨stepS, 143, .slice sa steps.length sk, steps⟩] [] w2 := by rw [hC0]; exact H
  refine WK.loop (α := Nat × CrS) (b := cd Tryz.prog 25 [7, 0, 1, 0, 0]) (by as_aux_lemma => kernel_rfl) (fun st_ => match st_ with | (k, C) => [(0, .P db 0), (1, .slice a 0 ca), (4, .I ((C.i : Nat) : Int)), (7, .I 0), (8, .I ((C.j : Nat) : Int)), (53, .slice sa steps.length sk), (54, .I ((steps.length : Nat) : Int)), (55, .I k)]) (fun st_ w' => match st_ with | (k, C) => Hp w S O ((db, .cells #[.bool true, .map (some sb), .map (some nb), .slice sa steps.length sk, .bool armed, .I left, .bool dead] 39 (0, 0)) :: (nb, mapO Value.string ptrV L c) :: (sb, mapO Value.string ptrV C.A.1 C.A.2) :: (filesH C.fs)) [⟨stepS, 143, .slice sa steps.length sk, steps⟩] [] w' ∧ C = crAt 0 ([] : List (BitVec 8)) (A, lc) fs (steps.take k) ∧ k ≤ steps.length ∧ C.i ≤ k ∧ C.j ≤ k ∧ psOf C.fs = psOf fs ∧ FilesOk C.fs) (fun st_ => match st_ with | (k, C) => steps.length - k) (0, C0) ⟨H, by rw [hC0]; exact ⟨rfl, Nat.zero_le _, Nat.le_refl _, Nat.le_refl _, rfl, hok.files⟩⟩ (by rw [hC0]; rfl) ?_
  rintro ⟨k, C⟩ w17 ⟨H, hinv1⟩ hback16
  obtain ⟨hvk, hvi, hvj⟩ := And.intro hinv1.2.1 (And.intro hinv1.2.2.1 hinv1.2.2.2.1)
  refine qR 3 [.c [7, 0, 1, 0, 0, 1, 0], .c [7, 0, 1, 0, 0, 2], .l [7, 0, 1, 0, 0], .b 2, .c [8]] [(0, .P db 0), (1, .slice a 0 ca), (4, .I ((C.i : Nat) : Int)), (7, .I 0), (8, .I ((C.j : Nat) : Int)), (53, .slice sa steps.length sk), (54, .I ((steps.length : Nat) : Int)), (55, .I k), (56, .bool (decide (((k : Int) : Int) < ((steps.length : Nat) : Int))))] ?_
  refine qD (((k : Int) : Int) < ((steps.length : Nat) : Int)) (fun h18 => ?_) (fun h18 => ?_)
  ·
   refine qR 4 [.c [7, 0, 1, 0, 0, 2, 0, 0, 0], .c [7, 0, 1, 0, 0, 2, 0, 0, 1], .b 3, .c [7, 0, 1, 0, 0, 3], .l [7, 0, 1, 0, 0], .b 2, .c [8]] [(0, .P db 0), (1, .slice a 0 ca), (4, .I ((C.i : Nat) : Int)), (7, .I 0), (8, .I ((C.j : Nat) : Int)), (53, .slice sa steps.length sk), (54, .I ((steps.length : Nat) : Int)), (55, .I k)] ?_
   refine qG (sq 0 4) ?_
   have hn20 : steps.length = steps.length := rfl
   have hx19 : k < steps.length := by omega
   refine RW.indexW (κ := .seq) (d := some 57) (r := (sq 1 4)) (T := 37) (e := 143) (m := 69) (ik := .i64) (ix := (k : Int)) (sh := stepS) (xs := steps) (a := sa) (len := steps.length) (cap := sk) (by as_aux_lemma => kernel_rfl) (by as_aux_lemma => kernel_rfl) rfl H k (by omega) hx19 hn20 ?_
   intro b21 es22 ha23 hcell24 hr25
   obtain ⟨rfl, hst26⟩ := hr25
   refine qL .seq 58 (sq 2 4) 143 b21 (k * 69) 0 (.agg (stepC (steps[k])).toArray) hcell24 ?_
   refine qB .seq 10 (sq 3 4) ((stepC (⟨0, none, (⟨#[]⟩ : ByteArray), (⟨#[]⟩ : ByteArray), 0, zeroSec⟩ : StepD)).toArray) 143 H ?_
   intro b27 w28 H
   refine qW 143 b27 0 (sq 4 4) (.agg (stepC (steps[k])).toArray) ((b27, .cells (stepC (steps[k])).toArray 143 (0, 0)) :: (db, .cells #[.bool true, .map (some sb), .map (some nb), .slice sa steps.length sk, .bool armed, .I left, .bool dead] 39 (0, 0)) :: (nb, mapO Value.string ptrV L c) :: (sb, mapO Value.string ptrV C.A.1 C.A.2) :: (filesH C.fs)) H 0 rfl rfl ?_
   intro w29 H
   refine qF 0 [(0, .P db 0), (1, .slice a 0 ca), (4, .I ((C.i : Nat) : Int)), (7, .I 0), (8, .I ((C.j : Nat) : Int)), (10, .P b27 0), (53, .slice sa steps.length sk), (54, .I ((steps.length : Nat) : Int)), (55, .I k)] ?_
   refine qR 2 [.c [7, 0, 1, 0, 0, 2, 0, 0, 1, 0, 0], .c [7, 0, 1, 0, 0, 2, 0, 0, 1, 0, 1], .c [7, 0, 1, 0, 0, 2, 0, 0, 2], .b 3, .c [7, 0, 1, 0, 0, 3], .l [7, 0, 1, 0, 0], .b 2, .c [8]] [(0, .P db 0), (1, .slice a 0 ca), (4, .I ((C.i : Nat) : Int)), (7, .I 0), (8, .I ((C.j : Nat) : Int)), (10, .P b27 0), (53, .slice sa steps.length sk), (54, .I ((steps.length : Nat) : Int)), (55, .I k)] ?_
   refine qG (sq 0 3) ?_
   refine qP 1 (sq 1 3) [(0, .P db 0), (1, .slice a 0 ca), (4, .I ((C.i : Nat) : Int)), (7, .I 0), (8, .I ((C.j : Nat) : Int)), (10, .P b27 0), (53, .slice sa steps.length sk), (54, .I ((steps.length : Nat) : Int)), (55, .I k), (59, .P b27 0)] ?_
   refine qL .seq 60 (sq 2 3) 138 b27 0 0 (.I ((steps[k]).kind)) (H.cells 0 rfl) ?_
   refine qF 1 [(0, .P db 0), (1, .slice a 0 ca), (4, .I ((C.i : Nat) : Int)), (7, .I 0), (8, .I ((C.j : Nat) : Int)), (10, .P b27 0), (53, .slice sa steps.length sk), (54, .I ((steps.length : Nat) : Int)), (55, .I k), (61, .bool (((steps[k]).kind) != 3))] ?_
   refine qN ((steps[k]).kind) 3 (fun h30 => ?_) (fun h30 => ?_)
   ·
    refine qR 3 [.c [7, 0, 1, 0, 0, 2, 0, 0, 1, 0, 1, 0, 0, 1], .c [7, 0, 1, 0, 0, 2, 0, 0, 1, 0, 1, 0, 1], .c [7, 0, 1, 0, 0, 2, 0, 0, 2], .b 3, .c [7, 0, 1, 0, 0, 3], .l [7, 0, 1, 0, 0], .b 2, .c [8]] [(0, .P db 0), (1, .slice a 0 ca), (4, .I ((C.i : Nat) : Int)), (7, .I 0), (8, .I ((C.j : Nat) : Int)), (10, .P b27 0), (53, .slice sa steps.length sk), (54, .I ((steps.length : Nat) : Int)), (55, .I k), (64, .bool (decide ((((C.i : Nat) : Int) : Int) < 0)))] ?_
    refine qD ((((C.i : Nat) : Int) : Int) < 0) (fun h31 => ?_) (fun h31 => ?_)
    ·
     refine WK.draw1 5 (qs [0, 1, 2, 3, 4]) [(0, .qui), (1, .qui), (2, .qui), (3, .qui), (4, .qui), (5, .seq)] Tryz_mixed (by as_aux_lemma => kernel_rfl) (by as_aux_lemma => kernel_rfl) (by as_aux_lemma => kernel_rfl) ?_
     have H := H.draw
     generalize ({ w29 with drawn := w29.drawn + 1 } : World) = w32 at H ⊢
     refine qL .qui 65 [(1, .qui), (2, .qui), (3, .qui), (4, .qui), (5, .seq)] 143 b27 0 0 (.agg (stepC (steps[k])).toArray) (H.cells 0 rfl) ?_
     refine qP 3 [(4, .qui), (5, .seq)] [(0, .P db 0), (1, .slice a 0 ca), (4, .I ((C.i : Nat) : Int)), (7, .I 0), (8, .I ((C.j : Nat) : Int)), (53, .slice sa steps.length sk), (54, .I ((steps.length : Nat) : Int)), (55, .I k), (65, .agg (stepC (steps[k])).toArray), (68, .P db 1)] ?_
     refine qL .qui 69 [(5, .seq)] 36 db 1 1 (.map (some sb)) (H.cells 1 rfl) ?_
     have H := H.frontM 3 (M' := ((sb, mapO Value.string ptrV C.A.1 C.A.2) :: (b27, .cells (stepC (steps[k])).toArray 143 (0, 0)) :: (db, .cells #[.bool true, .map (some sb), .map (some nb), .slice sa steps.length sk, .bool armed, .I left, .bool dead] 39 (0, 0)) :: (nb, mapO Value.string ptrV L c) :: (filesH C.fs))) rfl
     refine RW.callS (d := some 70) (r := []) (g := 64) (args := #[.agg (stepC (steps[k])).toArray, .map (some sb)]) (by as_aux_lemma => kernel_rfl) (name_spec (steps[k]) ((H.lend (M1 := [(sb, mapO Value.string ptrV C.A.1 C.A.2)]) (W1 := [])).pick [] rfl) ) ?_
     rintro _ w33 ⟨rfl, H'⟩
     have H := H.back (M1 := [(sb, mapO Value.string ptrV C.A.1 C.A.2)]) (W1 := []) H'
     have H : Hp w S O ((sb, mapO Value.string ptrV ((mapN (C.A.1, C.A.2) (steps[k])).1) ((mapN (C.A.1, C.A.2) (steps[k])).2)) :: (b27, .cells (stepC (steps[k])).toArray 143 (0, 0)) :: (db, .cells #[.bool true, .map (some sb), .map (some nb), .slice sa steps.length sk, .bool armed, .I left, .bool dead] 39 (0, 0)) :: (nb, mapO Value.string ptrV L c) :: (filesH C.fs)) [⟨stepS, 143, .slice sa steps.length sk, steps⟩] [] _ := H
     refine qF 0 [(0, .P db 0), (1, .slice a 0 ca), (4, .I ((C.i : Nat) : Int)), (7, .I 0), (8, .I ((C.j : Nat) : Int)), (53, .slice sa steps.length sk), (54, .I ((steps.length : Nat) : Int)), (55, .I k)] ?_
     refine qR 1 [.c [7, 0, 1, 0, 0, 2, 0, 0, 1, 0, 1, 0, 1, 0], .c [7, 0, 1, 0, 0, 2, 0, 0, 1, 0, 1, 0, 2], .c [7, 0, 1, 0, 0, 2, 0, 0, 2], .b 3, .c [7, 0, 1, 0, 0, 3], .l [7, 0, 1, 0, 0], .b 2, .c [8]] [(0, .P db 0), (1, .slice a 0 ca), (4, .I ((C.i : Nat) : Int)), (7, .I 0), (8, .I ((C.j : Nat) : Int)), (53, .slice sa steps.length sk), (54, .I ((steps.length : Nat) : Int)), (55, .I k)] ?_
     refine qG (sq 0 3) ?_
     refine qP 1 (sq 1 3) [(0, .P db 0), (1, .slice a 0 ca), (4, .I ((C.i : Nat) : Int)), (7, .I 0), (8, .I ((C.j : Nat) : Int)), (53, .slice sa steps.length sk), (54, .I ((steps.length : Nat) : Int)), (55, .I k), (71, .I ((C.i : Nat) : Int))] ?_
     refine qI .seq 72 (sq 2 3) (((C.i : Nat) : Int) + 1) ?_
     refine qF 1 [(0, .P db 0), (1, .slice a 0 ca), (4, .I (((C.i : Nat) : Int) + 1)), (7, .I 0), (8, .I ((C.j : Nat) : Int)), (53, .slice sa steps.length sk), (54, .I ((steps.length : Nat) : Int)), (55, .I k)] ?_
     refine qR 1 [.c [7, 0, 1, 0, 0, 3], .l [7, 0, 1, 0, 0], .b 2, .c [8]] [(0, .P db 0), (1, .slice a 0 ca), (4, .I (((C.i : Nat) : Int) + 1)), (7, .I 0), (8, .I ((C.j : Nat) : Int)), (53, .slice sa steps.length sk), (54, .I ((steps.length : Nat) : Int)), (55, .I k)] ?_
     refine qG (sq 0 2) ?_
     refine qI .seq 101 (sq 1 2) ((k : Int) + 1) ?_
     refine qF 1 [(0, .P db 0), (1, .slice a 0 ca), (4, .I (((C.i : Nat) : Int) + 1)), (7, .I 0), (8, .I ((C.j : Nat) : Int)), (53, .slice sa steps.length sk), (54, .I ((steps.length : Nat) : Int)), (55, .I ((k : Int) + 1))] ?_
     obtain ⟨C2, hC2⟩ : ∃ z : CrS, z = ⟨mapN C.A steps[k], C.i + 1, C.j, C.fs⟩ := ⟨_, rfl⟩
     have hCs : C2 = crAt 0 ([] : List (BitVec 8)) (A, lc) fs (steps.take (k + 1)) := by rw [crAt_step hx19, ← hinv1.1, hC2]; exact (crStep_name h30 h31).symm
     have hps2 : psOf C2.fs = psOf fs := by rw [hC2]; exact hinv1.2.2.2.2.1
     have hfo2 : FilesOk C2.fs := by rw [hC2]; exact hinv1.2.2.2.2.2
     have H := H.frontM 3 (M' := ((nb, mapO Value.string ptrV L c) :: (sb, mapO Value.string ptrV ((mapN (C.A.1, C.A.2) (steps[k])).1) ((mapN (C.A.1, C.A.2) (steps[k])).2)) :: (b27, .cells (stepC (steps[k])).toArray 143 (0, 0)) :: (db, .cells #[.bool true, .map (some sb), .map (some nb), .slice sa steps.length sk, .bool armed, .I left, .bool dead] 39 (0, 0)) :: (filesH C.fs))) rfl
     have H := H.frontM 3 (M' := ((db, .cells #[.bool true, .map (some sb), .map (some nb), .slice sa steps.length sk, .bool armed, .I left, .bool dead] 39 (0, 0)) :: (nb, mapO Value.string ptrV L c) :: (sb, mapO Value.string ptrV ((mapN (C.A.1, C.A.2) (steps[k])).1) ((mapN (C.A.1, C.A.2) (steps[k])).2)) :: (b27, .cells (stepC (steps[k])).toArray 143 (0, 0)) :: (filesH C.fs))) rfl
     have H := H.frontM 3 (M' := ((b27, .cells (stepC (steps[k])).toArray 143 (0, 0)) :: (db, .cells #[.bool true, .map (some sb), .map (some nb), .slice sa steps.length sk, .bool armed, .I left, .bool dead] 39 (0, 0)) :: (nb, mapO Value.string ptrV L c) :: (sb, mapO Value.string ptrV ((mapN (C.A.1, C.A.2) (steps[k])).1) ((mapN (C.A.1, C.A.2) (steps[k])).2)) :: (filesH C.fs))) rfl
     have H := H.drop (M' := ((db, .cells #[.bool true, .map (some sb), .map (some nb), .slice sa steps.length sk, .bool armed, .I left, .bool dead] 39 (0, 0)) :: (nb, mapO Value.string ptrV L c) :: (sb, mapO Value.string ptrV ((mapN (C.A.1, C.A.2) (steps[k])).1) ((mapN (C.A.1, C.A.2) (steps[k])).2)) :: (filesH C.fs))) (W' := [⟨stepS, 143, .slice sa steps.length sk, steps⟩]) (by repeat (first | exact List.Sublist.refl _ | exact List.nil_sublist _ | apply List.Sublist.cons_cons | apply List.Sublist.cons)) (by repeat (first | exact List.Sublist.refl _ | exact List.nil_sublist _ | apply List.Sublist.cons_cons | apply List.Sublist.cons))
     have H : Hp w S O ((db, .cells #[.bool true, .map (some sb), .map (some nb), .slice sa steps.length sk, .bool armed, .I left, .bool dead] 39 (0, 0)) :: (nb, mapO Value.string ptrV L c) :: (sb, mapO Value.string ptrV C2.A.1 C2.A.2) :: (filesH C2.fs)) [⟨stepS, 143, .slice sa steps.length sk, steps⟩] [] w33 := by rw [hC2]; exact H
     rw [show (((C.i : Nat) : Int) + 1 : Int) = ((C2.i : Nat) : Int) by simp [hC2], show (((C.j : Nat) : Int) : Int) = ((C2.j : Nat) : Int) by simp [hC2]]
     have hi2 : C2.i ≤ k + 1 := by rw [hC2]; simp only []; omega
     have hj2 : C2.j ≤ k + 1 := by rw [hC2]; simp only []; omega
     skip
     exact WK.back (hback16 (k + 1, C2) _ ⟨H, hCs, by omega, hi2, hj2, hps2, hfo2⟩ (by first | omega | (simp only []; omega))) (by as_aux_lemma => kernel_rfl)
    ·
     refine qR 2 [.c [7, 0, 1, 0, 0, 2, 0, 0, 1, 0, 1, 0, 1, 0], .c [7, 0, 1, 0, 0, 2, 0, 0, 1, 0, 1, 0, 2], .c [7, 0, 1, 0, 0, 2, 0, 0, 2], .b 3, .c [7, 0, 1, 0, 0, 3], .l [7, 0, 1, 0, 0], .b 2, .c [8]] [(0, .P db 0), (1, .slice a 0 ca), (4, .I ((C.i : Nat) : Int)), (7, .I 0), (8, .I ((C.j : Nat) : Int)), (53, .slice sa steps.length sk), (54, .I ((steps.length : Nat) : Int)), (55, .I k)] ?_
     refine qG (sq 0 3) ?_
     refine qP 1 (sq 1 3) [(0, .P db 0), (1, .slice a 0 ca), (4, .I ((C.i : Nat) : Int)), (7, .I 0), (8, .I ((C.j : Nat) : Int)), (53, .slice sa steps.length sk), (54, .I ((steps.length : Nat) : Int)), (55, .I k), (71, .I ((C.i : Nat) : Int))] ?_
     refine qI .seq 72 (sq 2 3) (((C.i : Nat) : Int) + 1) ?_
     refine qF 1 [(0, .P db 0), (1, .slice a 0 ca), (4, .I (((C.i : Nat) : Int) + 1)), (7, .I 0), (8, .I ((C.j : Nat) : Int)), (53, .slice sa steps.length sk), (54, .I ((steps.length : Nat) : Int)), (55, .I k)] ?_
     refine qR 1 [.c [7, 0, 1, 0, 0, 3], .l [7, 0, 1, 0, 0], .b 2, .c [8]] [(0, .P db 0), (1, .slice a 0 ca), (4, .I (((C.i : Nat) : Int) + 1)), (7, .I 0), (8, .I ((C.j : Nat) : Int)), (53, .slice sa steps.length sk), (54, .I ((steps.length : Nat) : Int)), (55, .I k)] ?_
     refine qG (sq 0 2) ?_
     refine qI .seq 101 (sq 1 2) ((k : Int) + 1) ?_
     refine qF 1 [(0, .P db 0), (1, .slice a 0 ca), (4, .I (((C.i : Nat) : Int) + 1)), (7, .I 0), (8, .I ((C.j : Nat) : Int)), (53, .slice sa steps.length sk), (54, .I ((steps.length : Nat) : Int)), (55, .I ((k : Int) + 1))] ?_
     obtain ⟨C2, hC2⟩ : ∃ z : CrS, z = ⟨C.A, C.i + 1, C.j, C.fs⟩ := ⟨_, rfl⟩
     have hCs : C2 = crAt 0 ([] : List (BitVec 8)) (A, lc) fs (steps.take (k + 1)) := by rw [crAt_step hx19, ← hinv1.1, hC2]; exact (crStep_pass h30 h31).symm
     have hps2 : psOf C2.fs = psOf fs := by rw [hC2]; exact hinv1.2.2.2.2.1
     have hfo2 : FilesOk C2.fs := by rw [hC2]; exact hinv1.2.2.2.2.2
     have H := H.drop (M' := ((db, .cells #[.bool true, .map (some sb), .map (some nb), .slice sa steps.length sk, .bool armed, .I left, .bool dead] 39 (0, 0)) :: (nb, mapO Value.string ptrV L c) :: (sb, mapO Value.string ptrV C.A.1 C.A.2) :: (filesH C.fs))) (W' := [⟨stepS, 143, .slice sa steps.length sk, steps⟩]) (by repeat (first | exact List.Sublist.refl _ | exact List.nil_sublist _ | apply List.Sublist.cons_cons | apply List.Sublist.cons)) (by repeat (first | exact List.Sublist.refl _ | exact List.nil_sublist _ | apply List.Sublist.cons_cons | apply List.Sublist.cons))
     have H : Hp w S O ((db, .cells #[.bool true, .map (some sb), .map (some nb), .slice sa steps.length sk, .bool armed, .I left, .bool dead] 39 (0, 0)) :: (nb, mapO Value.string ptrV L c) :: (sb, mapO Value.string ptrV C2.A.1 C2.A.2) :: (filesH C2.fs)) [⟨stepS, 143, .slice sa steps.length sk, steps⟩] [] w29 := by rw [hC2]; exact H
     rw [show (((C.i : Nat) : Int) + 1 : Int) = ((C2.i : Nat) : Int) by simp [hC2], show (((C.j : Nat) : Int) : Int) = ((C2.j : Nat) : Int) by simp [hC2]]
     have hi2 : C2.i ≤ k + 1 := by rw [hC2]; simp only []; omega
     have hj2 : C2.j ≤ k + 1 := by rw [hC2]; simp only []; omega
     skip
     exact WK.back (hback16 (k + 1, C2) _ ⟨H, hCs, by omega, hi2, hj2, hps2, hfo2⟩ (by first | omega | (simp only []; omega))) (by as_aux_lemma => kernel_rfl)
   ·
    obtain ⟨q, hq, hqm⟩ := hok.wr steps[k] (List.getElem_mem hx19) h30
    refine qR 3 [.c [7, 0, 1, 0, 0, 2, 0, 0, 2, 0, 0], .c [7, 0, 1, 0, 0, 2, 0, 0, 2, 0, 1], .c [7, 0, 1, 0, 0, 2, 0, 0, 3], .b 3, .c [7, 0, 1, 0, 0, 3], .l [7, 0, 1, 0, 0], .b 2, .c [8]] [(0, .P db 0), (1, .slice a 0 ca), (4, .I ((C.i : Nat) : Int)), (7, .I 0), (8, .I ((C.j : Nat) : Int)), (10, .P b27 0), (53, .slice sa steps.length sk), (54, .I ((steps.length : Nat) : Int)), (55, .I k)] ?_
    refine qG (sq 0 17) ?_
    refine qP 1 (sq 1 17) [(0, .P db 0), (1, .slice a 0 ca), (4, .I ((C.i : Nat) : Int)), (7, .I 0), (8, .I ((C.j : Nat) : Int)), (10, .P b27 0), (53, .slice sa steps.length sk), (54, .I ((steps.length : Nat) : Int)), (55, .I k), (73, .I ((C.j : Nat) : Int))] ?_
    refine RW.pv (κ := .seq) (d := some 74) (r := (sq 2 17)) (v := .I (IntKind.i64.wrap (((C.j : Nat) : Int).tdiv 8))) (v' := .I (((C.j : Nat) : Int) / 8)) (by as_aux_lemma => kernel_rfl) (quo_i64 (by decide) (by omega)) ?_
    refine qP 4 (sq 6 17) [(0, .P db 0), (1, .slice a 0 ca), (4, .I ((C.i : Nat) : Int)), (7, .I 0), (8, .I ((C.j : Nat) : Int)), (10, .P b27 0), (53, .slice sa steps.length sk), (54, .I ((steps.length : Nat) : Int)), (55, .I k), (78, .bool (decide ((((C.j : Nat) : Int) / 8 : Int) < 0)))] ?_
    refine tD (fun b_ => [(0, .P db 0), (1, .slice a 0 ca), (4, .I ((C.i : Nat) : Int)), (7, .I 0), (8, .I ((C.j : Nat) : Int)), (10, .P b27 0), (53, .slice sa steps.length sk), (54, .I ((steps.length : Nat) : Int)), (55, .I k), (78, .bool b_)]) ((((C.j : Nat) : Int) / 8 : Int) < 0) (fun h34 => ?_) (fun h34 => ?_)
    ·
     omega
    ·
     have hbit : bitOf ([] : List (BitVec 8)) C.j = false := by unfold bitOf; rw [List.getElem?_eq_none (by simp)]
     refine qF 11 [(0, .P db 0), (1, .slice a 0 ca), (4, .I ((C.i : Nat) : Int)), (7, .I 0), (8, .I ((C.j : Nat) : Int)), (10, .P b27 0), (53, .slice sa steps.length sk), (54, .I ((steps.length : Nat) : Int)), (55, .I k), (89, .bool false)] ?_
     refine qR 2 [.c [7, 0, 1, 0, 0, 2, 0, 0, 3], .b 3, .c [7, 0, 1, 0, 0, 3], .l [7, 0, 1, 0, 0], .b 2, .c [8]] [(0, .P db 0), (1, .slice a 0 ca), (4, .I ((C.i : Nat) : Int)), (7, .I 0), (8, .I ((C.j : Nat) : Int)), (53, .slice sa steps.length sk), (54, .I ((steps.length : Nat) : Int)), (55, .I k)] ?_
     refine qG (sq 0 3) ?_
     refine qP 1 (sq 1 3) [(0, .P db 0), (1, .slice a 0 ca), (4, .I ((C.i : Nat) : Int)), (7, .I 0), (8, .I ((C.j : Nat) : Int)), (53, .slice sa steps.length sk), (54, .I ((steps.length : Nat) : Int)), (55, .I k), (99, .I ((C.j : Nat) : Int))] ?_
     refine qI .seq 100 (sq 2 3) (((C.j : Nat) : Int) + 1) ?_
     refine qF 1 [(0, .P db 0), (1, .slice a 0 ca), (4, .I ((C.i : Nat) : Int)), (7, .I 0), (8, .I (((C.j : Nat) : Int) + 1)), (53, .slice sa steps.length sk), (54, .I ((steps.length : Nat) : Int)), (55, .I k)] ?_
     refine qR 1 [.c [7, 0, 1, 0, 0, 3], .l [7, 0, 1, 0, 0], .b 2, .c [8]] [(0, .P db 0), (1, .slice a 0 ca), (4, .I ((C.i : Nat) : Int)), (7, .I 0), (8, .I (((C.j : Nat) : Int) + 1)), (53, .slice sa steps.length sk), (54, .I ((steps.length : Nat) : Int)), (55, .I k)] ?_
     refine qG (sq 0 2) ?_
     refine qI .seq 101 (sq 1 2) ((k : Int) + 1) ?_
     refine qF 1 [(0, .P db 0), (1, .slice a 0 ca), (4, .I ((C.i : Nat) : Int)), (7, .I 0), (8, .I (((C.j : Nat) : Int) + 1)), (53, .slice sa steps.length sk), (54, .I ((steps.length : Nat) : Int)), (55, .I ((k : Int) + 1))] ?_
     obtain ⟨C2, hC2⟩ : ∃ z : CrS, z = ⟨C.A, C.i, C.j + 1, C.fs⟩ := ⟨_, rfl⟩
     have hCs : C2 = crAt 0 ([] : List (BitVec 8)) (A, lc) fs (steps.take (k + 1)) := by rw [crAt_step hx19, ← hinv1.1, hC2]; exact (crStep_no h30 hbit).symm
     have hps2 : psOf C2.fs = psOf fs := by rw [hC2]; exact hinv1.2.2.2.2.1
     have hfo2 : FilesOk C2.fs := by rw [hC2]; exact hinv1.2.2.2.2.2
     have H := H.drop (M' := ((db, .cells #[.bool true, .map (some sb), .map (some nb), .slice sa steps.length sk, .bool armed, .I left, .bool dead] 39 (0, 0)) :: (nb, mapO Value.string ptrV L c) :: (sb, mapO Value.string ptrV C.A.1 C.A.2) :: (filesH C.fs))) (W' := [⟨stepS, 143, .slice sa steps.length sk, steps⟩]) (by repeat (first | exact List.Sublist.refl _ | exact List.nil_sublist _ | apply List.Sublist.cons_cons | apply List.Sublist.cons)) (by repeat (first | exact List.Sublist.refl _ | exact List.nil_sublist _ | apply List.Sublist.cons_cons | apply List.Sublist.cons))
     have H : Hp w S O ((db, .cells #[.bool true, .map (some sb), .map (some nb), .slice sa steps.length sk, .bool armed, .I left, .bool dead] 39 (0, 0)) :: (nb, mapO Value.string ptrV L c) :: (sb, mapO Value.string ptrV C2.A.1 C2.A.2) :: (filesH C2.fs)) [⟨stepS, 143, .slice sa steps.length sk, steps⟩] [] w29 := by rw [hC2]; exact H
     rw [show (((C.i : Nat) : Int) : Int) = ((C2.i : Nat) : Int) by simp [hC2], show (((C.j : Nat) : Int) + 1 : Int) = ((C2.j : Nat) : Int) by simp [hC2]]
     have hi2 : C2.i ≤ k + 1 := by rw [hC2]; simp only []; omega
     have hj2 : C2.j ≤ k + 1 := by rw [hC2]; simp only []; omega
     skip
     exact WK.back (hback16 (k + 1, C2) _ ⟨H, hCs, by omega, hi2, hj2, hps2, hfo2⟩ (by first | omega | (simp only []; omega))) (by as_aux_lemma => kernel_rfl)
  ·
   refine qR 2 [.c [8, 0], .c [9]] [(0, .P db 0)] ?_
   refine qG (sq 0 12) ?_
   refine qP 5 (sq 5 12) [(0, .P db 0), (103, .P db 0), (104, .P db 0), (106, .P db 3)] ?_
   refine qW 37 db 3 (sq 6 12) (.slice none 0 0) ((db, .cells #[.bool true, .map (some sb), .map (some nb), .slice none 0 0, .bool armed, .I left, .bool dead] 39 (0, 0)) :: (nb, mapO Value.string ptrV L c) :: (sb, mapO Value.string ptrV C.A.1 C.A.2) :: (filesH C.fs)) H 0 rfl rfl ?_
   intro w35 H
   refine qP 2 (sq 8 12) [(0, .P db 0), (104, .P db 0), (108, .P db 6)] ?_
   refine qW 4 db 6 (sq 9 12) (.bool false) ((db, .cells #[.bool true, .map (some sb), .map (some nb), .slice none 0 0, .bool armed, .I left, .bool false] 39 (0, 0)) :: (nb, mapO Value.string ptrV L c) :: (sb, mapO Value.string ptrV C.A.1 C.A.2) :: (filesH C.fs)) H 0 rfl rfl ?_
   intro w36 H
   refine qP 2 (sq 11 12) [(0, .P db 0), (110, .P db 4)] ?_
   refine qW 4 db 4 (sq 12 12) (.bool false) ((db, .cells #[.bool true, .map (some sb), .map (some nb), .slice none 0 0, .bool false, .I left, .bool false] 39 (0, 0)) :: (nb, mapO Value.string ptrV L c) :: (sb, mapO Value.string ptrV C.A.1 C.A.2) :: (filesH C.fs)) H 0 rfl rfl ?_
   intro w37 H
   refine qF 0 [(0, .P db 0)] ?_
   refine qR 1 [.c [9, 0], .c [10]] [(0, .P db 0)] ?_
   refine qG (sq 0 9) ?_
   refine qP 4 (sq 4 9) [(0, .P db 0), (111, .P db 0), (114, .P db 1)] ?_
   refine qL .seq 115 (sq 5 9) 36 db 1 1 (.map (some sb)) (H.cells 0 rfl) ?_
   have H := H.frontM 2 (M' := ((sb, mapO Value.string ptrV C.A.1 C.A.2) :: (db, .cells #[.bool true, .map (some sb), .map (some nb), .slice none 0 0, .bool false, .I left, .bool false] 39 (0, 0)) :: (nb, mapO Value.string ptrV L c) :: (filesH C.fs))) rfl
   refine RW.callS (d := some 116) (r := (sq 6 9)) (g := 65) (args := #[.map (some sb)]) (by as_aux_lemma => kernel_rfl) (cloneN ((H.lend (M1 := [(sb, mapO Value.string ptrV C.A.1 C.A.2)]) (W1 := [])).pick [] rfl) ) ?_
   rintro _ w38 ⟨b39, rfl, H'⟩
   have H := H.back (M1 := [(sb, mapO Value.string ptrV C.A.1 C.A.2)]) (W1 := []) H'
   have H : Hp w S O ((b39, mapO Value.string ptrV C.A.1 C.A.2) :: (sb, mapO Value.string ptrV C.A.1 C.A.2) :: (db, .cells #[.bool true, .map (some sb), .map (some nb), .slice none 0 0, .bool false, .I left, .bool false] 39 (0, 0)) :: (nb, mapO Value.string ptrV L c) :: (filesH C.fs)) [⟨stepS, 143, .slice sa steps.length sk, steps⟩] [] _ := H
   refine qP 2 (sq 8 9) [(0, .P db 0), (116, .map (some b39)), (118, .P db 2)] ?_
   refine qW 36 db 2 (sq 9 9) (.map (some b39)) ((b39, mapO Value.string ptrV C.A.1 C.A.2) :: (sb, mapO Value.string ptrV C.A.1 C.A.2) :: (db, .cells #[.bool true, .map (some sb), .map (some b39), .slice none 0 0, .bool false, .I left, .bool false] 39 (0, 0)) :: (nb, mapO Value.string ptrV L c) :: (filesH C.fs)) H 2 rfl rfl ?_
   intro w40 H
   refine qF 0 [(0, .P db 0)] ?_
   refine qR 1 [.c [10, 0], .c [11]] [(0, .P db 0)] ?_
   refine qG (sq 0 5) ?_
   refine qP 3 (sq 3 5) [(121, .P db 2)] ?_
   refine qL .seq 122 (sq 4 5) 36 db 2 2 (.map (some b39)) (H.cells 2 rfl) ?_
   refine RW.mapRange (κ := .seq) (d := some 123) (r := (sq 5 5)) (T := 36) (mk := Value.string) (vk := ptrV) (Kt := 9) (E := 139) (by as_aux_lemma => kernel_rfl) (nofun) H 0 rfl (by as_aux_lemma => kernel_rfl) ?_
   intro q41 w42 hNw42 H
   refine qF 0 [(123, .P q41 0)] ?_
   refine qR 1 [.c [11, 0], .b 4] [(123, .P q41 0)] ?_
   have hk9 : steps.take k = steps := List.take_of_length_le (by omega)
   obtain ⟨m, hm1, hm2⟩ := crAt_A 0 ([] : List (BitVec 8)) (A, lc) fs steps
   have hCe : C = crAt 0 ([] : List (BitVec 8)) (A, lc) fs steps := by rw [hinv1.1, hk9]
   have hMA : MOk C.A.1 C.A.2 := by rw [hCe, hm1]; exact foldN_ok hok.map _
   have hgood : ∀ e ∈ C.A.1, ∃ p, e.2.1 = some p ∧ p ∈ psOf fs := by rw [hCe, hm1]; exact hok.good m
   have hps := hinv1.2.2.2.2.1
   have hfoA := hinv1.2.2.2.2.2
   have H := H.frontM 2 (M' := ((sb, mapO Value.string ptrV C.A.1 C.A.2) :: (q41, iterO b39 C.A.2 ([] : List (ByteArray × (Option Nat) × Nat)) C.A.2) :: (b39, mapO Value.string ptrV C.A.1 C.A.2) :: (db, .cells #[.bool true, .map (some sb), .map (some b39), .slice none 0 0, .bool false, .I left, .bool false] 39 (0, 0)) :: (nb, mapO Value.string ptrV L c) :: (filesH C.fs))) rfl
   have H := H.frontM 2 (M' := ((b39, mapO Value.string ptrV C.A.1 C.A.2) :: (sb, mapO Value.string ptrV C.A.1 C.A.2) :: (q41, iterO b39 C.A.2 ([] : List (ByteArray × (Option Nat) × Nat)) C.A.2) :: (db, .cells #[.bool true, .map (some sb), .map (some b39), .slice none 0 0, .bool false, .I left, .bool false] 39 (0, 0)) :: (nb, mapO Value.string ptrV L c) :: (filesH C.fs))) rfl
   have H := H.frontM 3 (M' := ((db, .cells #[.bool true, .map (some sb), .map (some b39), .slice none 0 0, .bool false, .I left, .bool false] 39 (0, 0)) :: (b39, mapO Value.string ptrV C.A.1 C.A.2) :: (sb, mapO Value.string ptrV C.A.1 C.A.2) :: (q41, iterO b39 C.A.2 ([] : List (ByteArray × (Option Nat) × Nat)) C.A.2) :: (nb, mapO Value.string ptrV L c) :: (filesH C.fs))) rfl
   have H := H.frontM 3 (M' := ((q41, iterO b39 C.A.2 ([] : List (ByteArray × (Option Nat) × Nat)) C.A.2) :: (db, .cells #[.bool true, .map (some sb), .map (some b39), .slice none 0 0, .bool false, .I left, .bool false] 39 (0, 0)) :: (b39, mapO Value.string ptrV C.A.1 C.A.2) :: (sb, mapO Value.string ptrV C.A.1 C.A.2) :: (nb, mapO Value.string ptrV L c) :: (filesH C.fs))) rfl
   have H := H.frontM 4 (M' := ((nb, mapO Value.string ptrV L c) :: (q41, iterO b39 C.A.2 ([] : List (ByteArray × (Option Nat) × Nat)) C.A.2) :: (db, .cells #[.bool true, .map (some sb), .map (some b39), .slice none 0 0, .bool false, .I left, .bool false] 39 (0, 0)) :: (b39, mapO Value.string ptrV C.A.1 C.A.2) :: (sb, mapO Value.string ptrV C.A.1 C.A.2) :: (filesH C.fs))) rfl
   have H := H.drop (M' := ((q41, iterO b39 C.A.2 ([] : List (ByteArray × (Option Nat) × Nat)) C.A.2) :: (db, .cells #[.bool true, .map (some sb), .map (some b39), .slice none 0 0, .bool false, .I left, .bool false] 39 (0, 0)) :: (b39, mapO Value.string ptrV C.A.1 C.A.2) :: (sb, mapO Value.string ptrV C.A.1 C.A.2) :: (filesH C.fs))) (W' := []) (by repeat (first | exact List.Sublist.refl _ | exact List.nil_sublist _ | apply List.Sublist.cons_cons | apply List.Sublist.cons)) (by repeat (first | exact List.Sublist.refl _ | exact List.nil_sublist _ | apply List.Sublist.cons_cons | apply List.Sublist.cons))
   rw [← crF_nil C.fs (fun _ => 0)] at H
   have H : Hp w S O ((q41, iterO b39 C.A.2 ([] : List (ByteArray × (Option Nat) × Nat)) C.A.2) :: (db, .cells #[.bool true, .map (some sb), .map (some b39), .slice none 0 0, .bool false, .I left, .bool false] 39 (0, 0)) :: (b39, mapO Value.string ptrV C.A.1 C.A.2) :: (sb, mapO Value.string ptrV C.A.1 C.A.2) :: (filesH (crF C.fs ([] : NameL) (fun _ => 0)))) [] [] _ := H
   have H := H.drop (M' := ((q41, iterO b39 C.A.2 ([] : NameL) C.A.2) :: (db, .cells #[.bool true, .map (some sb), .map (some b39), .slice none 0 0, .bool false, .I left, .bool false] 39 (0, 0)) :: (b39, mapO Value.string ptrV C.A.1 C.A.2) :: (sb, mapO Value.string ptrV C.A.1 C.A.2) :: (filesH (crF C.fs ([] : NameL) (fun _ => 0))))) (W' := []) (by repeat (first | exact List.Sublist.refl _ | exact List.nil_sublist _ | apply List.Sublist.cons_cons | apply List.Sublist.cons)) (by repeat (first | exact List.Sublist.refl _ | exact List.nil_sublist _ | apply List.Sublist.cons_cons | apply List.Sublist.cons))
   refine WK.loop (α := NameL × NameL × (Nat → Nat)) (b := cd Tryz.prog 25 [11, 0, 0]) (by as_aux_lemma => kernel_rfl) (fun st_ => match st_ with | (dn, lf, ns) => [(123, .P q41 0)]) (fun st_ w' => match st_ with | (dn, lf, ns) => Hp w S O ((q41, iterO b39 C.A.2 dn C.A.2) :: (db, .cells #[.bool true, .map (some sb), .map (some b39), .slice none 0 0, .bool false, .I left, .bool false] 39 (0, 0)) :: (b39, mapO Value.string ptrV C.A.1 C.A.2) :: (sb, mapO Value.string ptrV C.A.1 C.A.2) :: (filesH (crF C.fs dn ns))) [] [] w' ∧ (dn ++ lf).Perm C.A.1) (fun st_ => match st_ with | (dn, lf, ns) => lf.length) (([] : NameL), C.A.1, (fun _ => 0)) ⟨H, by simp⟩ (rfl) ?_
   rintro ⟨dn, lf, ns⟩ w44 ⟨H, hinv2⟩ hback43
   refine qR 1 [.c [11, 0, 0, 0], .c [11, 0, 0, 1], .l [11, 0, 0], .b 4] [(123, .P q41 0)] ?_
   refine qG (sq 0 2) ?_
   refine RW.mapNext (d := some 124) (r := (sq 1 2)) (ty := 0) (mk := Value.string) (vk := ptrV) (lf := lf) (by as_aux_lemma => kernel_rfl) H 2 rfl 0 rfl hinv2 hMA.borns hMA.old (Nat.le_refl _) (fun ho48 => ?_) (fun e45 lf46 hl47 => ?_)
   ·
    subst ho48
    rw [List.append_nil] at hinv2
    refine qF 1 [(123, .P q41 0), (125, .bool false)] ?_
    refine qR 3 [] [] ?_
    refine WK.fin (v := .tuple #[]) Tryz.func25 (by as_aux_lemma => kernel_rfl) ?_
    have hfin := crF_perm C.fs hinv2 ns
    rw [hfin] at H
    have H := H.drop (M' := ((db, .cells #[.bool true, .map (some sb), .map (some b39), .slice none 0 0, .bool false, .I left, .bool false] 39 (0, 0)) :: (b39, mapO Value.string ptrV C.A.1 C.A.2) :: (sb, mapO Value.string ptrV C.A.1 C.A.2) :: (filesH (crF C.fs C.A.1 ns)))) (W' := []) (by repeat (first | exact List.Sublist.refl _ | exact List.nil_sublist _ | apply List.Sublist.cons_cons | apply List.Sublist.cons)) (by repeat (first | exact List.Sublist.refl _ | exact List.nil_sublist _ | apply List.Sublist.cons_cons | apply List.Sublist.cons))
    exact ⟨_, rfl, rfl, C, ns, b39, hCe, H.ownNil stepS 143⟩
   ·
    intro w49 H
    have H : Hp w S O ((q41, iterO b39 C.A.2 (dn ++ [e45]) C.A.2) :: (db, .cells #[.bool true, .map (some sb), .map (some b39), .slice none 0 0, .bool false, .I left, .bool false] 39 (0, 0)) :: (b39, mapO Value.string ptrV C.A.1 C.A.2) :: (sb, mapO Value.string ptrV C.A.1 C.A.2) :: (filesH (crF C.fs dn ns))) [] [] _ := H
    refine qF 1 [(123, .P q41 0), (125, .bool true)] ?_
    refine qR 5 [.c [11, 0, 0, 2, 0, 0], .c [11, 0, 0, 2, 0, 1], .b 5, .l [11, 0, 0], .b 4] [(123, .P q41 0)] ?_
    refine qG (sq 0 3) ?_
    refine RW.mapEntry (κ := .seq) (d := some 126) (r := (sq 1 3)) (mk := Value.string) (vk := ptrV) (e := e45) (dn := dn) (by as_aux_lemma => kernel_rfl) H 2 rfl 0 rfl ((hinv2.mem_iff).1 (List.mem_append_right _ (hl47.mem_iff.2 (List.mem_cons_self ..)))) hMA.borns ?_
    obtain ⟨p, hep, hpm⟩ := hgood _ ((hinv2.mem_iff).1 (List.mem_append_right _ (hl47.mem_iff.2 (List.mem_cons_self ..))))
    rw [show ptrV e45.2.1 = .P p 0 from by rw [hep]; rfl]
    have hnd := ps_nodup2 (fs := crF C.fs dn ns) H [(q41, iterO b39 C.A.2 (dn ++ [e45]) C.A.2), (db, .cells #[.bool true, .map (some sb), .map (some b39), .slice none 0 0, .bool false, .I left, .bool false] 39 (0, 0)), (b39, mapO Value.string ptrV C.A.1 C.A.2), (sb, mapO Value.string ptrV C.A.1 C.A.2)] rfl
    obtain ⟨fi, ff, hfi, hfp⟩ := ps_at (fs := crF C.fs dn ns) (by rw [crF_ps, hps]; exact hpm)
    have hfo := hfoA.crF dn ns ff (List.mem_of_getElem? hfi)
    obtain ⟨fp, fS, fn, fX, fxc, fY, fyc, fz⟩ := ff
    simp only at hfp
    subst hfp
    obtain ⟨hXk, -, hXb, -, -⟩ := hfo
    simp only at hXk hXb
    have H := H.perms (M' := ((q41, iterO b39 C.A.2 (dn ++ [e45]) C.A.2) :: (db, .cells #[.bool true, .map (some sb), .map (some b39), .slice none 0 0, .bool false, .I left, .bool false] 39 (0, 0)) :: (b39, mapO Value.string ptrV C.A.1 C.A.2) :: (sb, mapO Value.string ptrV C.A.1 C.A.2) :: (fp, .cells #[.map (some fS), .map (some fn), .I fz] 147 (0, 0)) :: (fS, mapO (Value.int .i64) secVal fX fxc) :: (fn, mapO (Value.int .i64) secVal fY fyc) :: (filesH ((crF C.fs dn ns).eraseIdx fi)))) (W' := []) (((filesH_pick hfi).symm.append_left ([(q41, iterO b39 C.A.2 (dn ++ [e45]) C.A.2), (db, .cells #[.bool true, .map (some sb), .map (some b39), .slice none 0 0, .bool false, .I left, .bool false] 39 (0, 0)), (b39, mapO Value.string ptrV C.A.1 C.A.2), (sb, mapO Value.string ptrV C.A.1 C.A.2)] : Heap))) (List.Perm.refl _)
    have H : Hp w S O ((q41, iterO b39 C.A.2 (dn ++ [e45]) C.A.2) :: (db, .cells #[.bool true, .map (some sb), .map (some b39), .slice none 0 0, .bool false, .I left, .bool false] 39 (0, 0)) :: (b39, mapO Value.string ptrV C.A.1 C.A.2) :: (sb, mapO Value.string ptrV C.A.1 C.A.2) :: (fp, .cells #[.map (some fS), .map (some fn), .I fz] 147 (0, 0)) :: (fS, mapO (Value.int .i64) secVal fX fxc) :: (fn, mapO (Value.int .i64) secVal fY fyc) :: (filesH ((crF C.fs dn ns).eraseIdx fi))) [] [] _ := H
    refine qF 2 [(12, .P fp 0), (123, .P q41 0)] ?_
    refine qR 1 [.c [11, 0, 0, 2, 0, 1, 0], .c [11, 0, 0, 2, 0, 2], .b 5, .l [11, 0, 0], .b 4] [(12, .P fp 0), (123, .P q41 0)] ?_
    refine qG (sq 0 9) ?_
    refine qP 4 (sq 4 9) [(12, .P fp 0), (123, .P q41 0), (128, .P fp 0), (131, .P fp 0)] ?_
    refine qL .seq 132 (sq 5 9) 145 fp 0 0 (.map (some fS)) (H.cells 4 rfl) ?_
    have H := H.frontM 5 (M' := ((fS, mapO (Value.int .i64) secVal fX fxc) :: (q41, iterO b39 C.A.2 (dn ++ [e45]) C.A.2) :: (db, .cells #[.bool true, .map (some sb), .map (some b39), .slice none 0 0, .bool false, .I left, .bool false] 39 (0, 0)) :: (b39, mapO Value.string ptrV C.A.1 C.A.2) :: (sb, mapO Value.string ptrV C.A.1 C.A.2) :: (fp, .cells #[.map (some fS), .map (some fn), .I fz] 147 (0, 0)) :: (fn, mapO (Value.int .i64) secVal fY fyc) :: (filesH ((crF C.fs dn ns).eraseIdx fi)))) rfl
    refine RW.callS (d := some 133) (r := (sq 6 9)) (g := 66) (args := #[.map (some fS)]) (by as_aux_lemma => kernel_rfl) (cloneX ((H.lend (M1 := [(fS, mapO (Value.int .i64) secVal fX fxc)]) (W1 := [])).pick [] rfl) ) ?_
    rintro _ w50 ⟨b51, rfl, H'⟩
    have H := H.back (M1 := [(fS, mapO (Value.int .i64) secVal fX fxc)]) (W1 := []) H'
    have H : Hp w S O ((b51, mapO (Value.int .i64) secVal fX fxc) :: (fS, mapO (Value.int .i64) secVal fX fxc) :: (q41, iterO b39 C.A.2 (dn ++ [e45]) C.A.2) :: (db, .cells #[.bool true, .map (some sb), .map (some b39), .slice none 0 0, .bool false, .I left, .bool false] 39 (0, 0)) :: (b39, mapO Value.string ptrV C.A.1 C.A.2) :: (sb, mapO Value.string ptrV C.A.1 C.A.2) :: (fp, .cells #[.map (some fS), .map (some fn), .I fz] 147 (0, 0)) :: (fn, mapO (Value.int .i64) secVal fY fyc) :: (filesH ((crF C.fs dn ns).eraseIdx fi))) [] [] _ := H
    refine qP 2 (sq 8 9) [(12, .P fp 0), (123, .P q41 0), (133, .map (some b51)), (135, .P fp 1)] ?_
    refine qW 145 fp 1 (sq 9 9) (.map (some b51)) ((b51, mapO (Value.int .i64) secVal fX fxc) :: (fS, mapO (Value.int .i64) secVal fX fxc) :: (q41, iterO b39 C.A.2 (dn ++ [e45]) C.A.2) :: (db, .cells #[.bool true, .map (some sb), .map (some b39), .slice none 0 0, .bool false, .I left, .bool false] 39 (0, 0)) :: (b39, mapO Value.string ptrV C.A.1 C.A.2) :: (sb, mapO Value.string ptrV C.A.1 C.A.2) :: (fp, .cells #[.map (some fS), .map (some b51), .I fz] 147 (0, 0)) :: (fn, mapO (Value.int .i64) secVal fY fyc) :: (filesH ((crF C.fs dn ns).eraseIdx fi))) H 6 rfl rfl ?_
    intro w52 H
    refine qF 0 [(12, .P fp 0), (123, .P q41 0)] ?_
    refine qR 1 [.c [11, 0, 0, 2, 0, 2, 0], .c [11, 0, 0, 2, 0, 3], .b 5, .l [11, 0, 0], .b 4] [(12, .P fp 0), (123, .P q41 0)] ?_
    refine qG (sq 0 4) ?_
    refine qP 3 (sq 3 4) [(12, .P fp 0), (123, .P q41 0), (138, .P fp 2)] ?_
    refine qW 3 fp 2 (sq 4 4) (.I 0) ((b51, mapO (Value.int .i64) secVal fX fxc) :: (fS, mapO (Value.int .i64) secVal fX fxc) :: (q41, iterO b39 C.A.2 (dn ++ [e45]) C.A.2) :: (db, .cells #[.bool true, .map (some sb), .map (some b39), .slice none 0 0, .bool false, .I left, .bool false] 39 (0, 0)) :: (b39, mapO Value.string ptrV C.A.1 C.A.2) :: (sb, mapO Value.string ptrV C.A.1 C.A.2) :: (fp, .cells #[.map (some fS), .map (some b51), .I 0] 147 (0, 0)) :: (fn, mapO (Value.int .i64) secVal fY fyc) :: (filesH ((crF C.fs dn ns).eraseIdx fi))) H 6 rfl rfl ?_
    intro w53 H
    refine qF 0 [(12, .P fp 0), (123, .P q41 0)] ?_
    refine qR 1 [.c [11, 0, 0, 2, 0, 3, 0], .c [11, 0, 0, 2, 0, 4], .b 5, .l [11, 0, 0], .b 4] [(12, .P fp 0), (123, .P q41 0)] ?_
    refine qG (sq 0 5) ?_
    refine qP 3 (sq 3 5) [(12, .P fp 0), (123, .P q41 0), (141, .P fp 1)] ?_
    refine qL .seq 142 (sq 4 5) 145 fp 1 1 (.map (some b51)) (H.cells 6 rfl) ?_
    refine RW.mapRange (κ := .seq) (d := some 143) (r := (sq 5 5)) (T := 145) (mk := (Value.int .i64)) (vk := secVal) (Kt := 3) (E := 141) (by as_aux_lemma => kernel_rfl) (nofun) H 0 rfl (by as_aux_lemma => kernel_rfl) ?_
    intro q54 w55 hNw55 H
    refine qF 0 [(12, .P fp 0), (123, .P q41 0), (143, .P q54 0)] ?_
    refine qR 1 [.c [11, 0, 0, 2, 0, 4, 0], .b 6, .b 5, .l [11, 0, 0], .b 4] [(12, .P fp 0), (123, .P q41 0), (143, .P q54 0)] ?_
    have hz0 : (0 : Int) = sizeX ([] : SecM) := rfl
    have H : Hp w S O ((q54, iterO b51 fxc ([] : List (Int × Sec × Nat)) fxc) :: (b51, mapO (Value.int .i64) secVal fX fxc) :: (fS, mapO (Value.int .i64) secVal fX fxc) :: (q41, iterO b39 C.A.2 (dn ++ [e45]) C.A.2) :: (db, .cells #[.bool true, .map (some sb), .map (some b39), .slice none 0 0, .bool false, .I left, .bool false] 39 (0, 0)) :: (b39, mapO Value.string ptrV C.A.1 C.A.2) :: (sb, mapO Value.string ptrV C.A.1 C.A.2) :: (fp, .cells #[.map (some fS), .map (some b51), .I (sizeX ([] : SecM))] 147 (0, 0)) :: (fn, mapO (Value.int .i64) secVal fY fyc) :: (filesH ((crF C.fs dn ns).eraseIdx fi))) [] [] _ := H
    have H := H.drop (M' := ((q54, iterO b51 fxc ([] : SecM) fxc) :: (b51, mapO (Value.int .i64) secVal fX fxc) :: (fS, mapO (Value.int .i64) secVal fX fxc) :: (q41, iterO b39 C.A.2 (dn ++ [e45]) C.A.2) :: (db, .cells #[.bool true, .map (some sb), .map (some b39), .slice none 0 0, .bool false, .I left, .bool false] 39 (0, 0)) :: (b39, mapO Value.string ptrV C.A.1 C.A.2) :: (sb, mapO Value.string ptrV C.A.1 C.A.2) :: (fp, .cells #[.map (some fS), .map (some b51), .I (sizeX ([] : SecM))] 147 (0, 0)) :: (fn, mapO (Value.int .i64) secVal fY fyc) :: (filesH ((crF C.fs dn ns).eraseIdx fi)))) (W' := []) (by repeat (first | exact List.Sublist.refl _ | exact List.nil_sublist _ | apply List.Sublist.cons_cons | apply List.Sublist.cons)) (by repeat (first | exact List.Sublist.refl _ | exact List.nil_sublist _ | apply List.Sublist.cons_cons | apply List.Sublist.cons))
    refine WK.loop (α := SecM × SecM) (b := cd Tryz.prog 25 [11, 0, 0, 2, 0, 4, 0, 0]) (by as_aux_lemma => kernel_rfl) (fun st_ => match st_ with | (dn2, lf2) => [(12, .P fp 0), (123, .P q41 0), (143, .P q54 0)]) (fun st_ w' => match st_ with | (dn2, lf2) => Hp w S O ((q54, iterO b51 fxc dn2 fxc) :: (b51, mapO (Value.int .i64) secVal fX fxc) :: (fS, mapO (Value.int .i64) secVal fX fxc) :: (q41, iterO b39 C.A.2 (dn ++ [e45]) C.A.2) :: (db, .cells #[.bool true, .map (some sb), .map (some b39), .slice none 0 0, .bool false, .I left, .bool false] 39 (0, 0)) :: (b39, mapO Value.string ptrV C.A.1 C.A.2) :: (sb, mapO Value.string ptrV C.A.1 C.A.2) :: (fp, .cells #[.map (some fS), .map (some b51), .I (sizeX dn2)] 147 (0, 0)) :: (fn, mapO (Value.int .i64) secVal fY fyc) :: (filesH ((crF C.fs dn ns).eraseIdx fi))) [] [] w' ∧ (dn2 ++ lf2).Perm fX) (fun st_ => match st_ with | (dn2, lf2) => lf2.length) (([] : SecM), fX) ⟨H, by simp⟩ (rfl) ?_
    rintro ⟨dn2, lf2⟩ w57 ⟨H, hinv3⟩ hback56
    refine qR 1 [.c [11, 0, 0, 2, 0, 4, 0, 0, 0], .c [11, 0, 0, 2, 0, 4, 0, 0, 1], .l [11, 0, 0, 2, 0, 4, 0, 0], .b 6, .b 5, .l [11, 0, 0], .b 4] [(12, .P fp 0), (123, .P q41 0), (143, .P q54 0)] ?_
    refine qG (sq 0 2) ?_
    refine RW.mapNext (d := some 144) (r := (sq 1 2)) (ty := 0) (mk := (Value.int .i64)) (vk := secVal) (lf := lf2) (by as_aux_lemma => kernel_rfl) H 1 rfl 0 rfl hinv3 hXk.borns hXk.old (Nat.le_refl _) (fun ho61 => ?_) (fun e58 lf59 hl60 => ?_)
    ·
     subst ho61
     rw [List.append_nil] at hinv3
     have hz9 := sizeX_perm hinv3
     rw [hz9] at H
     refine qF 1 [(12, .P fp 0), (123, .P q41 0), (143, .P q54 0), (145, .bool false)] ?_
     refine qR 4 [.l [11, 0, 0], .b 4] [(123, .P q41 0)] ?_
     have H := H.frontM 1 (M' := ((b51, mapO (Value.int .i64) secVal fX fxc) :: (q54, iterO b51 fxc dn2 fxc) :: (fS, mapO (Value.int .i64) secVal fX fxc) :: (q41, iterO b39 C.A.2 (dn ++ [e45]) C.A.2) :: (db, .cells #[.bool true, .map (some sb), .map (some b39), .slice none 0 0, .bool false, .I left, .bool false] 39 (0, 0)) :: (b39, mapO Value.string ptrV C.A.1 C.A.2) :: (sb, mapO Value.string ptrV C.A.1 C.A.2) :: (fp, .cells #[.map (some fS), .map (some b51), .I (sizeX fX)] 147 (0, 0)) :: (fn, mapO (Value.int .i64) secVal fY fyc) :: (filesH ((crF C.fs dn ns).eraseIdx fi)))) rfl
     have H := H.frontM 2 (M' := ((fS, mapO (Value.int .i64) secVal fX fxc) :: (b51, mapO (Value.int .i64) secVal fX fxc) :: (q54, iterO b51 fxc dn2 fxc) :: (q41, iterO b39 C.A.2 (dn ++ [e45]) C.A.2) :: (db, .cells #[.bool true, .map (some sb), .map (some b39), .slice none 0 0, .bool false, .I left, .bool false] 39 (0, 0)) :: (b39, mapO Value.string ptrV C.A.1 C.A.2) :: (sb, mapO Value.string ptrV C.A.1 C.A.2) :: (fp, .cells #[.map (some fS), .map (some b51), .I (sizeX fX)] 147 (0, 0)) :: (fn, mapO (Value.int .i64) secVal fY fyc) :: (filesH ((crF C.fs dn ns).eraseIdx fi)))) rfl
     have H := H.frontM 7 (M' := ((fp, .cells #[.map (some fS), .map (some b51), .I (sizeX fX)] 147 (0, 0)) :: (fS, mapO (Value.int .i64) secVal fX fxc) :: (b51, mapO (Value.int .i64) secVal fX fxc) :: (q54, iterO b51 fxc dn2 fxc) :: (q41, iterO b39 C.A.2 (dn ++ [e45]) C.A.2) :: (db, .cells #[.bool true, .map (some sb), .map (some b39), .slice none 0 0, .bool false, .I left, .bool false] 39 (0, 0)) :: (b39, mapO Value.string ptrV C.A.1 C.A.2) :: (sb, mapO Value.string ptrV C.A.1 C.A.2) :: (fn, mapO (Value.int .i64) secVal fY fyc) :: (filesH ((crF C.fs dn ns).eraseIdx fi)))) rfl
     have H := H.frontM 7 (M' := ((sb, mapO Value.string ptrV C.A.1 C.A.2) :: (fp, .cells #[.map (some fS), .map (some b51), .I (sizeX fX)] 147 (0, 0)) :: (fS, mapO (Value.int .i64) secVal fX fxc) :: (b51, mapO (Value.int .i64) secVal fX fxc) :: (q54, iterO b51 fxc dn2 fxc) :: (q41, iterO b39 C.A.2 (dn ++ [e45]) C.A.2) :: (db, .cells #[.bool true, .map (some sb), .map (some b39), .slice none 0 0, .bool false, .I left, .bool false] 39 (0, 0)) :: (b39, mapO Value.string ptrV C.A.1 C.A.2) :: (fn, mapO (Value.int .i64) secVal fY fyc) :: (filesH ((crF C.fs dn ns).eraseIdx fi)))) rfl
     have H := H.frontM 7 (M' := ((b39, mapO Value.string ptrV C.A.1 C.A.2) :: (sb, mapO Value.string ptrV C.A.1 C.A.2) :: (fp, .cells #[.map (some fS), .map (some b51), .I (sizeX fX)] 147 (0, 0)) :: (fS, mapO (Value.int .i64) secVal fX fxc) :: (b51, mapO (Value.int .i64) secVal fX fxc) :: (q54, iterO b51 fxc dn2 fxc) :: (q41, iterO b39 C.A.2 (dn ++ [e45]) C.A.2) :: (db, .cells #[.bool true, .map (some sb), .map (some b39), .slice none 0 0, .bool false, .I left, .bool false] 39 (0, 0)) :: (fn, mapO (Value.int .i64) secVal fY fyc) :: (filesH ((crF C.fs dn ns).eraseIdx fi)))) rfl
     have H := H.frontM 7 (M' := ((db, .cells #[.bool true, .map (some sb), .map (some b39), .slice none 0 0, .bool false, .I left, .bool false] 39 (0, 0)) :: (b39, mapO Value.string ptrV C.A.1 C.A.2) :: (sb, mapO Value.string ptrV C.A.1 C.A.2) :: (fp, .cells #[.map (some fS), .map (some b51), .I (sizeX fX)] 147 (0, 0)) :: (fS, mapO (Value.int .i64) secVal fX fxc) :: (b51, mapO (Value.int .i64) secVal fX fxc) :: (q54, iterO b51 fxc dn2 fxc) :: (q41, iterO b39 C.A.2 (dn ++ [e45]) C.A.2) :: (fn, mapO (Value.int .i64) secVal fY fyc) :: (filesH ((crF C.fs dn ns).eraseIdx fi)))) rfl
     have H := H.frontM 7 (M' := ((q41, iterO b39 C.A.2 (dn ++ [e45]) C.A.2) :: (db, .cells #[.bool true, .map (some sb), .map (some b39), .slice none 0 0, .bool false, .I left, .bool false] 39 (0, 0)) :: (b39, mapO Value.string ptrV C.A.1 C.A.2) :: (sb, mapO Value.string ptrV C.A.1 C.A.2) :: (fp, .cells #[.map (some fS), .map (some b51), .I (sizeX fX)] 147 (0, 0)) :: (fS, mapO (Value.int .i64) secVal fX fxc) :: (b51, mapO (Value.int .i64) secVal fX fxc) :: (q54, iterO b51 fxc dn2 fxc) :: (fn, mapO (Value.int .i64) secVal fY fyc) :: (filesH ((crF C.fs dn ns).eraseIdx fi)))) rfl
     have H := H.frontM 8 (M' := ((fn, mapO (Value.int .i64) secVal fY fyc) :: (q41, iterO b39 C.A.2 (dn ++ [e45]) C.A.2) :: (db, .cells #[.bool true, .map (some sb), .map (some b39), .slice none 0 0, .bool false, .I left, .bool false] 39 (0, 0)) :: (b39, mapO Value.string ptrV C.A.1 C.A.2) :: (sb, mapO Value.string ptrV C.A.1 C.A.2) :: (fp, .cells #[.map (some fS), .map (some b51), .I (sizeX fX)] 147 (0, 0)) :: (fS, mapO (Value.int .i64) secVal fX fxc) :: (b51, mapO (Value.int .i64) secVal fX fxc) :: (q54, iterO b51 fxc dn2 fxc) :: (filesH ((crF C.fs dn ns).eraseIdx fi)))) rfl
     have H := H.frontM 8 (M' := ((q54, iterO b51 fxc dn2 fxc) :: (fn, mapO (Value.int .i64) secVal fY fyc) :: (q41, iterO b39 C.A.2 (dn ++ [e45]) C.A.2) :: (db, .cells #[.bool true, .map (some sb), .map (some b39), .slice none 0 0, .bool false, .I left, .bool false] 39 (0, 0)) :: (b39, mapO Value.string ptrV C.A.1 C.A.2) :: (sb, mapO Value.string ptrV C.A.1 C.A.2) :: (fp, .cells #[.map (some fS), .map (some b51), .I (sizeX fX)] 147 (0, 0)) :: (fS, mapO (Value.int .i64) secVal fX fxc) :: (b51, mapO (Value.int .i64) secVal fX fxc) :: (filesH ((crF C.fs dn ns).eraseIdx fi)))) rfl
     have H := H.drop (M' := ((q41, iterO b39 C.A.2 (dn ++ [e45]) C.A.2) :: (db, .cells #[.bool true, .map (some sb), .map (some b39), .slice none 0 0, .bool false, .I left, .bool false] 39 (0, 0)) :: (b39, mapO Value.string ptrV C.A.1 C.A.2) :: (sb, mapO Value.string ptrV C.A.1 C.A.2) :: (fp, .cells #[.map (some fS), .map (some b51), .I (sizeX fX)] 147 (0, 0)) :: (fS, mapO (Value.int .i64) secVal fX fxc) :: (b51, mapO (Value.int .i64) secVal fX fxc) :: (filesH ((crF C.fs dn ns).eraseIdx fi)))) (W' := []) (by repeat (first | exact List.Sublist.refl _ | exact List.nil_sublist _ | apply List.Sublist.cons_cons | apply List.Sublist.cons)) (by repeat (first | exact List.Sublist.refl _ | exact List.nil_sublist _ | apply List.Sublist.cons_cons | apply List.Sublist.cons))
     have H := H.perms (M' := ((q41, iterO b39 C.A.2 (dn ++ [e45]) C.A.2) :: (db, .cells #[.bool true, .map (some sb), .map (some b39), .slice none 0 0, .bool false, .I left, .bool false] 39 (0, 0)) :: (b39, mapO Value.string ptrV C.A.1 C.A.2) :: (sb, mapO Value.string ptrV C.A.1 C.A.2) :: (filesH ((crF C.fs dn ns).set fi (visit b51 ⟨fp, fS, fn, fX, fxc, fY, fyc, fz⟩))))) (W' := []) (((filesH_put (visit b51 ⟨fp, fS, fn, fX, fxc, fY, fyc, fz⟩) (List.getElem?_eq_some_iff.1 hfi).1).append_left ([(q41, iterO b39 C.A.2 (dn ++ [e45]) C.A.2), (db, .cells #[.bool true, .map (some sb), .map (some b39), .slice none 0 0, .bool false, .I left, .bool false] 39 (0, 0)), (b39, mapO Value.string ptrV C.A.1 C.A.2), (sb, mapO Value.string ptrV C.A.1 C.A.2)] : Heap))) (List.Perm.refl _)
     rw [← updF_set (g := visit b51) hnd hfi rfl, crF_step C.fs dn ns fp b51 e45 hep] at H
     have H : Hp w S O ((q41, iterO b39 C.A.2 (dn ++ [e45]) C.A.2) :: (db, .cells #[.bool true, .map (some sb), .map (some b39), .slice none 0 0, .bool false, .I left, .bool false] 39 (0, 0)) :: (b39, mapO Value.string ptrV C.A.1 C.A.2) :: (sb, mapO Value.string ptrV C.A.1 C.A.2) :: (filesH (crF C.fs (dn ++ [e45]) (fun q_ => if q_ = fp then b51 else ns q_)))) [] [] _ := H
     skip
     exact WK.back (hback43 (dn ++ [e45], lf46, (fun q_ => if q_ = fp then b51 else ns q_)) _ ⟨H, by rw [List.append_assoc]; exact ((List.Perm.append_left dn (by assumption)).symm.trans hinv2)⟩ (by have := List.Perm.length_eq (by assumption : lf.Perm _); simp only [List.length_cons] at this; simp only []; omega)) (by as_aux_lemma => kernel_rfl)
    ·
     intro w62 H
     have H : Hp w S O ((q54, iterO b51 fxc (dn2 ++ [e58]) fxc) :: (b51, mapO (Value.int .i64) secVal fX fxc) :: (fS, mapO (Value.int .i64) secVal fX fxc) :: (q41, iterO b39 C.A.2 (dn ++ [e45]) C.A.2) :: (db, .cells #[.bool true, .map (some sb), .map (some b39), .slice none 0 0, .bool false, .I left, .bool false] 39 (0, 0)) :: (b39, mapO Value.string ptrV C.A.1 C.A.2) :: (sb, mapO Value.string ptrV C.A.1 C.A.2) :: (fp, .cells #[.map (some fS), .map (some b51), .I (sizeX dn2)] 147 (0, 0)) :: (fn, mapO (Value.int .i64) secVal fY fyc) :: (filesH ((crF C.fs dn ns).eraseIdx fi))) [] [] _ := H
     have hxb := hXb _ ((hinv3.mem_iff).1 (List.mem_append_right _ (hl60.mem_iff.2 (List.mem_cons_self ..))))
     refine qF 1 [(12, .P fp 0), (123, .P q41 0), (143, .P q54 0), (145, .bool true)] ?_
     refine qR 5 [.c [11, 0, 0, 2, 0, 4, 0, 0, 2, 0, 0], .c [11, 0, 0, 2, 0, 4, 0, 0, 2, 0, 1], .b 7, .l [11, 0, 0, 2, 0, 4, 0, 0], .b 6, .b 5, .l [11, 0, 0], .b 4] [(12, .P fp 0), (123, .P q41 0), (143, .P q54 0)] ?_
     refine qG (sq 0 3) ?_
     refine RW.mapEntry (κ := .seq) (d := some 146) (r := (sq 1 3)) (mk := (Value.int .i64)) (vk := secVal) (e := e58) (dn := dn2) (by as_aux_lemma => kernel_rfl) H 1 rfl 0 rfl ((hinv3.mem_iff).1 (List.mem_append_right _ (hl60.mem_iff.2 (List.mem_cons_self ..)))) hXk.borns ?_
     refine qF 2 [(12, .P fp 0), (13, .I e58.1), (123, .P q41 0), (143, .P q54 0)] ?_
     refine qG (sq 0 11) ?_
     refine qP 4 (sq 4 11) [(12, .P fp 0), (13, .I e58.1), (123, .P q41 0), (143, .P q54 0), (148, .P fp 0), (151, .P fp 2)] ?_
     refine qL .seq 152 (sq 5 11) 3 fp 2 2 (.I (sizeX dn2)) (H.cells 7 rfl) ?_
     refine qP 1 (sq 6 11) [(12, .P fp 0), (123, .P q41 0), (143, .P q54 0), (148, .P fp 0), (152, .I (sizeX dn2)), (153, .I e58.1)] ?_
     refine qI .seq 154 (sq 7 11) (e58.1 + 1) ?_
     refine qP 3 (sq 10 11) [(12, .P fp 0), (123, .P q41 0), (143, .P q54 0), (155, .I (if e58.1 + 1 > (sizeX dn2) then e58.1 + 1 else (sizeX dn2))), (157, .P fp 2)] ?_
     refine qW 3 fp 2 (sq 11 11) (.I (if e58.1 + 1 > (sizeX dn2) then e58.1 + 1 else (sizeX dn2))) ((q54, iterO b51 fxc (dn2 ++ [e58]) fxc) :: (b51, mapO (Value.int .i64) secVal fX fxc) :: (fS, mapO (Value.int .i64) secVal fX fxc) :: (q41, iterO b39 C.A.2 (dn ++ [e45]) C.A.2) :: (db, .cells #[.bool true, .map (some sb), .map (some b39), .slice none 0 0, .bool false, .I left, .bool false] 39 (0, 0)) :: (b39, mapO Value.string ptrV C.A.1 C.A.2) :: (sb, mapO Value.string ptrV C.A.1 C.A.2) :: (fp, .cells #[.map (some fS), .map (some b51), .I (if e58.1 + 1 > (sizeX dn2) then e58.1 + 1 else (sizeX dn2))] 147 (0, 0)) :: (fn, mapO (Value.int .i64) secVal fY fyc) :: (filesH ((crF C.fs dn ns).eraseIdx fi))) H 7 rfl rfl ?_
     intro w63 H
     refine qF 0 [(12, .P fp 0), (123, .P q41 0), (143, .P q54 0)] ?_
     refine qR 1 [.l [11, 0, 0, 2, 0, 4, 0, 0], .b 6, .b 5, .l [11, 0, 0], .b 4] [(12, .P fp 0), (123, .P q41 0), (143, .P q54 0)] ?_
     have hz := sizeX_snoc dn2 e58
     have H : Hp w S O ((q54, iterO b51 fxc (dn2 ++ [e58]) fxc) :: (b51, mapO (Value.int .i64) secVal fX fxc) :: (fS, mapO (Value.int .i64) secVal fX fxc) :: (q41, iterO b39 C.A.2 (dn ++ [e45]) C.A.2) :: (db, .cells #[.bool true, .map (some sb), .map (some b39), .slice none 0 0, .bool false, .I left, .bool false] 39 (0, 0)) :: (b39, mapO Value.string ptrV C.A.1 C.A.2) :: (sb, mapO Value.string ptrV C.A.1 C.A.2) :: (fp, .cells #[.map (some fS), .map (some b51), .I (sizeX (dn2 ++ [e58]))] 147 (0, 0)) :: (fn, mapO (Value.int .i64) secVal fY fyc) :: (filesH ((crF C.fs dn ns).eraseIdx fi))) [] [] w63 := by rw [hz]; exact H
     skip
     exact WK.back (hback56 (dn2 ++ [e58], lf59) _ ⟨H, by rw [List.append_assoc]; exact ((List.Perm.append_left dn2 (by assumption)).symm.trans hinv3)⟩ (by have := List.Perm.length_eq (by assumption : lf2.Perm _); simp only [List.length_cons] at this; simp only []; omega)) (by as_aux_lemma => kernel_rfl)
end Go.Proofs.YtdnibpclkhenmaaGreatDoor
