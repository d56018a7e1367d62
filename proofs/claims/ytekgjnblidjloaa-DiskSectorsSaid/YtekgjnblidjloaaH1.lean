import Derived.Test.YtekgjnblidjloaaG9
namespace Go.Proofs.Ytekgjnblidjloaa
open Go.BX

/-! ### A disk with one file -/
def newD (x y : Nat) : DiskD := ⟨x, y, [], 0, [], 0, [], [], false, 0, false⟩
theorem newD_ok (x y : Nat) : DOk (newD x y) :=
 ⟨MOk.nil, ⟨MOk.nil, fun k e he => (by rw [show (newD x y).steps = [] from rfl, List.take_nil] at he; cases he), fun x hx => (by cases hx), fun x hx => (by cases hx), fun f hf => (by cases hf)⟩, fun _ => rfl, List.nodup_nil⟩
theorem permA (hd A B : Heap) : (A ++ (hd ++ B)).Perm (hd ++ (A ++ B)) := by
 rw [← List.append_assoc, ← List.append_assoc]
 exact List.perm_append_comm.append_right _
theorem permB (hd A B : Heap) : (B ++ (hd ++ A)).Perm (hd ++ (A ++ B)) := by
 rw [← List.append_assoc hd]
 exact List.perm_append_comm
def madeS (p : Nat) (nm : ByteArray) : StepD := ⟨0, some p, noS, nm, 0, zeroSec⟩
def wrW (p : Nat) (w : Int × Sec) : StepD := wrS p w.1 w.2
/-- one file, of one name -/
structure One (nm : ByteArray) (D : DiskD) (f : FileD) : Prop where
 files : D.files = [f]
 now : D.now = [(nm, some f.p, 0)]
theorem One.find {nm : ByteArray} {D : DiskD} {f : FileD} (h : One nm D f) : mfind nm D.now = some (some f.p) := by rw [h.now]; simp [mfind]
theorem notStops {D : DiskD} (h : D.armed = false) : ¬ Stops D := fun hs => by rw [hs.1] at h; cases h
theorem write_first {x y : Nat} {nm : ByteArray} {at_ e : Int} {xs : List (BitVec 8)} {D' : DiskD} (hn : nmI nm = 1) (ha : 0 ≤ at_ ∧ at_ < 65536) (hx : xs.length = 64) (h : WriteR (newD x y) nm at_ xs e D') :
 e = 0 ∧ ∃ f, One nm D' f ∧ D'.safe = [] ∧ D'.sc = 0 ∧ f.safe = [] ∧ f.sc = 0 ∧ D'.steps = [madeS f.p nm, wrS f.p at_ (secOf xs)] ∧ D'.armed = false ∧ D'.dead = false ∧ f.now = [(at_, secOf xs, 0)] ∧ f.size = at_ + 1 := by
 have hw : wArg (newD x y) nm at_ xs = 0 := by
  unfold wArg
  rw [if_neg (by omega), if_neg (fun hh => absurd hh.2 (by show ¬ 256 ≤ 0; decide))]
 rcases h with ⟨h1, h2, -⟩ | ⟨-, -, h3, -⟩ | ⟨-, -, -, p, hp, -⟩ | ⟨rfl, -, -, -, p, s, n, -, rfl⟩
 · exact absurd (h1.trans hw) h2
 · exact absurd h3 (notStops rfl)
 · cases hp
 · refine ⟨rfl, putB at_ (secOf xs) ⟨p, s, n, [], 0, [], 0, 0⟩, ⟨rfl, rfl⟩, rfl, rfl, rfl, rfl, rfl, rfl, rfl, rfl, ?_⟩
   show (if at_ + 1 > 0 then at_ + 1 else 0) = at_ + 1
   rw [if_pos (by omega)]
theorem write_more {nm : ByteArray} {at_ e : Int} {xs : List (BitVec 8)} {D D' : DiskD} {f : FileD} (ho : One nm D f) (harm : D.armed = false) (hn : nmI nm = 1) (ha : 0 ≤ at_ ∧ at_ < 65536) (hx : xs.length = 64) (h : WriteR D nm at_ xs e D') :
 e = 0 ∧ One nm D' (putB at_ (secOf xs) f) ∧ D'.safe = D.safe ∧ D'.sc = D.sc ∧ D'.steps = D.steps ++ [wrS f.p at_ (secOf xs)] ∧ D'.armed = false ∧ D'.dead = D.dead := by
 have hw : wArg D nm at_ xs = 0 := by
  unfold wArg
  rw [if_neg (by omega), if_neg (fun hh => by rw [ho.find] at hh; cases hh.1)]
 rcases h with ⟨h1, h2, -⟩ | ⟨-, -, h3, -⟩ | ⟨rfl, -, -, p, hp, rfl⟩ | ⟨-, -, -, hp, -⟩
 · exact absurd (h1.trans hw) h2
 · exact absurd h3 (notStops harm)
 · rw [ho.find] at hp
   simp only [Option.some.injEq] at hp
   subst hp
   refine ⟨rfl, ⟨?_, ho.now⟩, rfl, rfl, rfl, harm, rfl⟩
   show updF D.files f.p (putB at_ (secOf xs)) = _
   rw [ho.files]
   simp [updF]
 · rw [ho.find] at hp; cases hp
theorem sync_one {nm : ByteArray} {e : Int} {D D' : DiskD} {f : FileD} (ho : One nm D f) (harm : D.armed = false) (h : SyncR D nm e D') :
 e = 0 ∧ One nm D' (syncF f.p D.steps f) ∧ (D'.safe, D'.sc) = D.steps.foldl mapN (D.safe, D.sc) ∧ D'.steps = leftS f.p D.steps ∧ D'.armed = false ∧ D'.dead = D.dead := by
 rcases h with ⟨-, h1, -⟩ | ⟨-, -, h3, -⟩ | ⟨rfl, -, p, hp, rfl⟩
 · rw [ho.find] at h1; cases h1
 · exact absurd h3 (notStops harm)
 · rw [ho.find] at hp
   simp only [Option.some.injEq] at hp
   subst hp
   refine ⟨rfl, ⟨?_, ho.now⟩, rfl, rfl, harm, rfl⟩
   show updF D.files f.p (syncF f.p D.steps) = _
   rw [ho.files]
   simp [updF]
theorem leftS_own {p : Nat} {l : List StepD} (h : ∀ x ∈ l, x.kind = 3 → x.file = some p) : leftS p l = [] := by
 unfold leftS
 rw [List.filter_eq_nil_iff]
 intro x hx hh
 have := of_decide_eq_true hh
 exact this.2 (h x hx this.1)
theorem syncX_own {p : Nat} {X : SecM × Nat} {l : List (Int × Sec)} : syncX p X (l.map (wrW p)) = (l.map (wrW p)).foldl putX X := by
 unfold syncX
 rw [List.filter_eq_self.2]
 intro x hx
 obtain ⟨w, -, rfl⟩ := List.mem_map.1 hx
 exact decide_eq_true ⟨rfl, rfl⟩
/-- what a row of writings leaves of a sector -/
def lastW (l : List (Int × Sec)) (s : Int) : Option Sec := l.foldl (fun o w => if w.1 = s then some w.2 else o) none
theorem putX_find {p : Nat} (s : Int) : ∀ (l : List (Int × Sec)) (X : SecM × Nat), mfind s ((l.map (wrW p)).foldl putX X).1 = l.foldl (fun o w => if w.1 = s then some w.2 else o) (mfind s X.1)
 | [], _ => rfl
 | w :: l, X => by
  rw [List.map_cons, List.foldl_cons, List.foldl_cons, putX_find s l]
  congr 1
  exact mfind_set _ _ _ _ _
theorem secL_same {xs : List (BitVec 8)} (h : xs.length = 64) : secL (secOf xs) = xs := secL_of h
/-- a crash that keeps no sector -/
theorem crAt_none {first : Int} {A : NameL × Nat} {fs : List FileD} : ∀ {l : List StepD}, (∀ x ∈ l, x.kind = 3) → (crAt first [] A fs l).A = A ∧ (crAt first [] A fs l).fs = fs := by
 have key : ∀ (l : List StepD) (C : CrS), (∀ x ∈ l, x.kind = 3) → (l.foldl (crStep first []) C).A = C.A ∧ (l.foldl (crStep first []) C).fs = C.fs := by
  intro l
  induction l with
  | nil => intro C _; exact ⟨rfl, rfl⟩
  | cons x l ih =>
   intro C h
   have h1 : crStep first [] C x = ⟨C.A, C.i, C.j + 1, C.fs⟩ := crStep_no (h x (List.mem_cons_self ..)) (by simp [bitOf])
   rw [List.foldl_cons, h1]
   exact ih _ fun y hy => h y (List.mem_cons_of_mem _ hy)
 intro l h
 exact key l _ h
def bA : List (BitVec 8) := (List.replicate 64 0#8).set 0 1#8
def bB : List (BitVec 8) := (List.replicate 64 0#8).set 0 2#8
/-- what the heads make -/
theorem heads_law {x y : Nat} {nm : ByteArray} {D1 D2 D3 : DiskD} {e1 e2 e3 : Int} (hn : nmI nm = 1) (h1 : WriteR (newD x y) nm 0 bA e1 D1) (h2 : SyncR D1 nm e2 D2) (h3 : WriteR D2 nm 0 bB e3 D3) (ns : Nat → Nat) (nb : Nat) :
 e1 = 0 ∧ e2 = 0 ∧ (crashD D3 [0#8] ns nb).dead = false ∧ (crashD D3 [0#8] ns nb).armed = false ∧ ∃ f, (crashD D3 [0#8] ns nb).files = [f] ∧ mfind nm (crashD D3 [0#8] ns nb).now = some (some f.p) ∧ f.size = 1 ∧ mfind 0 f.now = some (secOf bA) := by
 obtain ⟨r1, f, o1, a1, a2, a3, a4, a5, a6, a7, -, -⟩ := write_first hn (by decide) (by decide) h1
 obtain ⟨r2, o2, b1, b2, b3, b4⟩ := sync_one o1 a6 h2
 obtain ⟨r3, o3, c1, c2, c3, c4, c5⟩ := write_more o2 b3 hn (by decide) (by decide) h3
 have hl : leftS f.p D1.steps = [] := leftS_own fun z hz hk => by
  rw [a5] at hz
  rcases List.mem_cons.1 hz with rfl | hz
  · cases hk
  · rw [List.mem_singleton.1 hz]; rfl
 rw [b2, hl, List.nil_append] at c3
 have hsy : syncF f.p D1.steps f = { f with safe := [(0, secOf bA, 0)], sc := 1 } := by
  unfold syncF syncX
  rw [a5, a3, a4]
  have : List.filter (isOf f.p) [madeS f.p nm, wrS f.p 0 (secOf bA)] = [wrS f.p 0 (secOf bA)] := by
   rw [List.filter_cons_of_neg (by unfold isOf; simp [madeS]), List.filter_cons_of_pos (by unfold isOf; simp [wrS])]; rfl
  rw [this]
  rfl
 have hsafe : (D2.safe, D2.sc) = ([(nm, some f.p, 0)], 1) := by
  rw [b1, a5, a1, a2]
  rfl
 have hkind : ∀ z ∈ D3.steps, z.kind = 3 := fun z hz => by rw [c3] at hz; rw [List.mem_singleton.1 hz]; rfl
 obtain ⟨d1, d2⟩ := crAt_none (first := firstOf [0#8] (nmC D3.steps)) (A := (D3.safe, D3.sc)) (fs := D3.files) hkind
 have e1' : (crC D3 [0#8]).A = (D3.safe, D3.sc) := d1
 have e2' : (crC D3 [0#8]).fs = D3.files := d2
 have hs3 : D3.safe = [(nm, some f.p, 0)] := by rw [c1]; exact congrArg Prod.fst hsafe
 refine ⟨r1, r2, rfl, rfl, visit (ns f.p) (putB 0 (secOf bB) { f with safe := [(0, secOf bA, 0)], sc := 1 }), ?_, ?_, ?_, ?_⟩
 · show crF (crC D3 [0#8]).fs (crC D3 [0#8]).A.1 ns = _
   rw [e1', e2', o3.files, hs3, hsy]
   unfold crF
   rw [List.map_cons, List.map_nil, if_pos (by simp [putB])]
   rfl
 · show mfind nm (crC D3 [0#8]).A.1 = _
   rw [e1']
   show mfind nm D3.safe = _
   rw [hs3]
   simp [mfind, visit, putB]
 · show sizeX [(0, secOf bA, 0)] = 1
   rfl
 · rfl
theorem toList_inj {a b : ByteArray} (h : a.toList = b.toList) : a = b := by
 rw [ByteArray.toList_eq, ByteArray.toList_eq] at h
 cases a
 cases b
 simp only at h
 rw [Array.toList_inj.1 h]
theorem nmI_of {s : ByteArray} (h : s.data.toList ≠ []) (h2 : s.size ≤ 64) : nmI s = 1 := by
 unfold nmI
 rw [if_pos]
 refine ⟨?_, h2⟩
 rw [ByteArray.toList_eq, ByteArray.toList_eq, Bool.not_eq_true', beq_eq_false_iff_ne]
 exact h
theorem nm_a : nmI ⟨#[97]⟩ = 1 := nmI_of (by decide) (by decide)
theorem nm_f : nmI ⟨#[102]⟩ = 1 := nmI_of (by decide) (by decide)
theorem nm_z : nmI ⟨#[122, 122, 57]⟩ = 1 := nmI_of (by decide) (by decide)
section
variable {S : Nat → Prop} {w : World} {O : List Nat} {db : Nat} {D : DiskD} {sa : Option Addr} {sk : Nat}
theorem dWriteN {name : ByteArray} {at_ : Int} {xs : List (BitVec 8)} {a : Option Addr} {n ca : Nat} (hok : DOk D) (hst : D.steps.length ≤ 1000000000) (hd : D.dead = false) (hl : D.armed = true → -9223372036854775808 < D.left ∧ D.left ≤ 9223372036854775807)
 (hs : name.size ≤ maxLen) (hat : -9223372036854775808 ≤ at_ ∧ at_ ≤ 9223372036854775807) (hn : xs.length = n) (H0 : Hp w S O (diskM db D sa sk) [diskW D sa sk] [Rp SB [.slice a n ca] xs] w) :
 Calls Try.prog 8 #[.P db 0, .string name, .I at_, .slice a n ca] w (DEnd w S O db fun v D' => ∃ e, v = .I e ∧ WriteR D name at_ xs e D') := by
 subst hn
 exact dWrite hok hst hd hl hs hat H0
theorem dCrashN {xs : List (BitVec 8)} {a : Option Addr} {n ca : Nat} (hok : DOk D) (hst : D.steps.length ≤ 1000000000) (hx : 0 < n) (hn : xs.length = n) (H0 : Hp w S O (diskM db D sa sk) [diskW D sa sk] [Rp SB [.slice a n ca] xs] w) :
 Calls Try.prog 10 #[.P db 0, .slice a n ca] w (Ret fun v w' => v = .tuple #[] ∧ ∃ (ns : Nat → Nat) (nb : Nat), Hp w S O (diskM db (crashD D xs ns nb) none 0) [diskW (crashD D xs ns nb) none 0] [] w') := by
 subst hn
 exact dCrash hok hst hx H0
theorem DOk.one {D : DiskD} (h : DOk D) {f g : FileD} (hf : f ∈ D.files) (hg : g ∈ D.files) (e : f.p = g.p) : f = g := by
 obtain ⟨i, hi, rfl⟩ := List.mem_iff_getElem.1 hf
 obtain ⟨j, hj, rfl⟩ := List.mem_iff_getElem.1 hg
 have hn := h.nd
 have : i = j := nodup_inj hn (by simpa [psOf] using hi) (by simpa [psOf] using hj) (by simpa [psOf] using e)
 subst this
 rfl
theorem dReadHit {name : ByteArray} {at_ : Int} (hok : DOk D) (hd : D.dead = false) {f : FileD} (hf : f ∈ D.files) (hn : mfind name D.now = some (some f.p)) (hat : 0 ≤ at_ ∧ at_ < f.size) (H0 : Hp w S O (diskM db D sa sk) [diskW D sa sk] [] w) :
 Calls Try.prog 13 #[.P db 0, .string name, .I at_] w (Ret fun v w' => ∃ (a' : Option Addr) (c' : Nat), v = .tuple #[.slice a' (secL ((mfind at_ f.now).getD zeroSec)).length c', .I 0] ∧
  Hp w S O (diskM db D sa sk) [⟨Sb, 5, .slice a' (secL ((mfind at_ f.now).getD zeroSec)).length c', secL ((mfind at_ f.now).getD zeroSec)⟩, diskW D sa sk] [] w') :=
 (dRead (at_ := at_) hok hd H0).mono fun e w' hh => by
  obtain ⟨v, he, ⟨⟨_, _, _, hr⟩, _⟩ | ⟨x, a', c', ⟨g, hg, hgn, _, _, rfl⟩, hv, H'⟩⟩ := hh
  · rcases hr with ⟨h1, _⟩ | ⟨g, hg, hgn, hr, _⟩
    · rw [hn] at h1; cases h1
    · rw [hn] at hgn
      simp only [Option.some.injEq] at hgn
      obtain rfl := hok.one hf hg hgn
      omega
  · rw [hn] at hgn
    simp only [Option.some.injEq] at hgn
    obtain rfl := hok.one hf hg hgn
    exact ⟨v, he, a', c', hv, H'⟩
theorem dReadMiss {name : ByteArray} {at_ : Int} (hok : DOk D) (hd : D.dead = false) {f : FileD} (hf : f ∈ D.files) (hn : mfind name D.now = some (some f.p)) (hat : at_ < 0 ∨ f.size ≤ at_) (H0 : Hp w S O (diskM db D sa sk) [diskW D sa sk] [] w) :
 Calls Try.prog 13 #[.P db 0, .string name, .I at_] w (Ret fun v w' => v = .tuple #[.slice none 0 0, .I 2] ∧ Hp w S O (diskM db D sa sk) [diskW D sa sk] [] w') :=
 (dRead (at_ := at_) hok hd H0).mono fun e w' hh => by
  obtain ⟨v, he, ⟨⟨e1, h1, h2, hr⟩, H'⟩ | ⟨x, a', c', ⟨g, hg, hgn, h3, h4, rfl⟩, hv, H'⟩⟩ := hh
  ·
   rcases hr with ⟨h3, _⟩ | ⟨_, _, _, _, rfl⟩
   · rw [hn] at h3; cases h3
   · exact ⟨v, he, h2, H'⟩
  · rw [hn] at hgn
    simp only [Option.some.injEq] at hgn
    obtain rfl := hok.one hf hg hgn
    omega
theorem dSizeHit {name : ByteArray} (hok : DOk D) (hd : D.dead = false) {f : FileD} (hf : f ∈ D.files) (hn : mfind name D.now = some (some f.p)) (H0 : Hp w S O (diskM db D sa sk) [diskW D sa sk] [] w) :
 Calls Try.prog 11 #[.P db 0, .string name] w (Ret fun v w' => v = .tuple #[.I f.size, .I 0] ∧ Hp w S O (diskM db D sa sk) [diskW D sa sk] [] w') :=
 (dSize hok hd H0).mono fun e w' hh => by
  obtain ⟨v, he, ⟨_, h1⟩ | ⟨g, hg, hgn, hv⟩, H'⟩ := hh
  · rw [hn] at h1; cases h1
  · rw [hn] at hgn
    simp only [Option.some.injEq] at hgn
    obtain rfl := hok.one hf hg hgn
    exact ⟨v, he, hv, H'⟩
theorem dSizeN {name : ByteArray} {n : Int} (hok : DOk D) (hd : D.dead = false) {f : FileD} (hf : f ∈ D.files) (hn : mfind name D.now = some (some f.p)) (hs : f.size = n) (H0 : Hp w S O (diskM db D sa sk) [diskW D sa sk] [] w) :
 Calls Try.prog 11 #[.P db 0, .string name] w (Ret fun v w' => v = .tuple #[.I n, .I 0] ∧ Hp w S O (diskM db D sa sk) [diskW D sa sk] [] w') := by
 subst hs
 exact dSizeHit hok hd hf hn H0
end


end Go.Proofs.Ytekgjnblidjloaa
