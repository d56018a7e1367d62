import Derived.Test.YtdnibpclkhenmaaGreatDoorSP3
namespace Go.Proofs.YtdnibpclkhenmaaGreatDoor
open Go.BX
def OfJ (nm x : ByteArray) : Prop := (∃ n, x = cN nm n) ∨ (∃ n, x = sN nm n) ∨ x = tN nm
theorem ofJ_of {nm x : ByteArray} (hp : PlainB nm) {nm2 : ByteArray} (hp2 : PlainB nm2) (h : OfJ nm x) (h2 : OfJ nm2 x) : nm = nm2 := by
 rcases h with ⟨n, rfl⟩ | ⟨n, rfl⟩ | rfl <;> rcases h2 with ⟨m, e⟩ | ⟨m, e⟩ | e
 · exact (fN_inj hp hp2 (.inr rfl) (.inr rfl) e).1
 · exact (fN_inj hp hp2 (.inr rfl) (.inl rfl) e).1
 · exact absurd e (fN_ne_t hp hp2 (.inr rfl))
 · exact (fN_inj hp hp2 (.inl rfl) (.inr rfl) e).1
 · exact (fN_inj hp hp2 (.inl rfl) (.inl rfl) e).1
 · exact absurd e (fN_ne_t hp hp2 (.inl rfl))
 · exact absurd e.symm (fN_ne_t hp2 hp (.inr rfl))
 · exact absurd e.symm (fN_ne_t hp2 hp (.inl rfl))
 · exact tN_inj hp hp2 e
theorem ofJ_neu {nm x : ByteArray} (hp : PlainB nm) {nm2 : ByteArray} (hp2 : PlainB nm2) (hne : nm2 ≠ nm) (h : OfJ nm x) (l : Nat) : Neu nm2 l x :=
 ⟨fun n e => absurd (ofJ_of hp2 hp (.inl ⟨n, e⟩) h) hne, fun n e => absurd (ofJ_of hp2 hp (.inr (.inl ⟨n, e⟩)) h) hne⟩
def OwnN (D : DiskD) (nm : ByteArray) (V : VV) (cur : Option Sg) : Prop := ∀ x, OfJ nm x → mfind x (nmAt D D.steps.length) ≠ none → x = cN nm V.last ∨ x = sN nm V.last ∨ ∃ s ∈ (V.addO cur).segs, x = sN nm s.n
def NowC (D : DiskD) (cur : Option Sg) : Prop := ∀ c, cur = some c → NowA D c.p (BtwA (framesF c.hi) (framesF c.hi))
structure LJ (D : DiskD) (nm : ByteArray) (V : VV) (cur : Option Sg) (g : Nat) : Prop where
 lv : LV D nm V cur g
 own : OwnN D nm V cur
 now : NowC D cur
def AllOf (D : DiskD) (nms : List ByteArray) : Prop := ∀ k x, mfind x (nmAt D k) ≠ none → ∃ nm ∈ nms, OfJ nm x
structure RS (D : DiskD) (nm : ByteArray) (V : VV) : Prop where
 names : ∀ k, NV nm (nmAt D k) V
 wf : WfV V
 fv : FV (FilA D) V
theorem RS.step {D D' : DiskD} {nm : ByteArray} {V : VV} (h : RS D nm V) (hp : PlainB nm) (hn : ∀ k', ∃ k, ∀ x, ¬ Neu nm V.last x → mfind x (nmAt D' k') = mfind x (nmAt D k))
 (hf : ∀ q A x, ¬ Neu nm V.last x → mfind x (nmAt D D.steps.length) = some (some q) → FilA D q A → FilA D' q A) : RS D' nm V :=
 ⟨fun k' => by obtain ⟨k, hk⟩ := hn k'; exact (h.names k).cong h.wf hp hk, h.wf,
  h.fv.step (fun s hs A => hf _ A (sN nm s.n) (fun q => by have := q.2 _ rfl; have := h.wf.gt s hs; omega) ((h.names _).s2 s hs)) (fun h0 A => hf _ A (cN nm V.last) (fun q => by have := q.1 _ rfl; omega) ((h.names _).c2 h0))⟩
structure Stp (nm : ByteArray) (D D' : DiskD) : Prop where
 oth : ∀ nm2, PlainB nm2 → nm2 ≠ nm → ∀ V c g, LJ D nm2 V c g → LJ D' nm2 V c g
 all : ∀ nms, nm ∈ nms → AllOf D nms → AllOf D' nms
 rs : ∀ nm2, PlainB nm2 → nm2 ≠ nm → ∀ V, RS D nm2 V → RS D' nm2 V
 arm : D'.armed = D.armed
theorem Stp.refl (nm : ByteArray) (D : DiskD) : Stp nm D D := ⟨fun _ _ _ _ _ _ h => h, fun _ _ h => h, fun _ _ _ _ h => h, rfl⟩
theorem Stp.trans {nm : ByteArray} {D1 D2 D3 : DiskD} (h : Stp nm D1 D2) (k : Stp nm D2 D3) : Stp nm D1 D3 :=
 ⟨fun nm2 hp hne V c g hl => k.oth nm2 hp hne V c g (h.oth nm2 hp hne V c g hl), fun nms hm ha => k.all nms hm (h.all nms hm ha), fun nm2 hp hne V hl => k.rs nm2 hp hne V (h.rs nm2 hp hne V hl), k.arm.trans h.arm⟩
theorem OwnN.step {D D' : DiskD} {nm : ByteArray} {V : VV} {cur : Option Sg} (h : OwnN D nm V cur) (he : ∀ x, OfJ nm x → mfind x (nmAt D' D'.steps.length) = mfind x (nmAt D D.steps.length)) : OwnN D' nm V cur := fun x hx hn => h x hx (by rwa [← he x hx])
theorem len_rm (D : DiskD) (s : StepD) : nmAt (tick (addS D s)) (tick (addS D s)).steps.length = (mapN (nmL D D.steps.length) s).1 := by
 show (nmL (addS D s) (D.steps ++ [s]).length).1 = _
 rw [nmL_addS (by rw [List.length_append]; simp)]
theorem len_sync (D : DiskD) (p : Nat) : nmAt (syncD D p) (syncD D p).steps.length = nmAt D D.steps.length := nmAt_sync p _
theorem ne_ofJ {nm nm2 x y : ByteArray} (hp : PlainB nm) (hp2 : PlainB nm2) (hne : nm2 ≠ nm) (h : OfJ nm x) (h2 : OfJ nm2 y) : x ≠ y := fun e => hne (ofJ_of hp2 hp h2 (e ▸ h))
theorem NowA.tk {D : DiskD} {p : Nat} {A : SP} (h : NowA D p A) (s : StepD) : NowA (tick (addS D s)) p A := h
theorem Stp.stop (nm : ByteArray) (D : DiskD) : Stp nm D (stopD D) := ⟨fun _ _ _ V c g h => ⟨⟨h.lv.names, h.lv.nowN, h.lv.wf, h.lv.ex, h.lv.fv.step (fun _ _ _ h => h.stop) (fun _ _ h => h.stop), h.lv.top, fun c hc => by
 obtain ⟨h1, h2, h3⟩ := h.lv.cur c hc
 exact ⟨h1, h2.stop, h3⟩⟩, h.own, h.now⟩, fun _ _ h => h, fun _ _ _ V h => ⟨h.names, h.wf, h.fv.step (fun _ _ _ h => h.stop) (fun _ _ h => h.stop)⟩, rfl⟩
theorem Stp.wr {D : DiskD} (hd : DI D) {nm x : ByteArray} (hp : PlainB nm) (hx : OfJ nm x) {p : Nat} (hf : mfind x (nmAt D D.steps.length) = some (some p)) (a : Int) (s : Sec) : Stp nm D (wrOld D p a s) := by
 refine ⟨fun d b hne V c g h => ⟨h.lv.wr hd b (ofJ_neu hp b hne hx _) hf, h.own.step fun y hy => by rw [nmAt_old_len], fun c' hc' => (h.now c' hc').wr_ne fun e => ?_⟩, fun nms hm h k y hy => ?_, fun d b hne V h => h.step b (fun k => by obtain ⟨j, e⟩ := nmAt_old D p a s k; exact ⟨j, fun x _ => by rw [e]⟩) fun q A y hn hq hF => hF.wr_ fun e => ?_, rfl⟩
 · obtain ⟨⟨_, -⟩, -⟩ := h.lv.cur c' hc'
   have f := h.lv.nowN.s2 c' (by rw [hc']; simp [VV.addO])
   exact ne_ofJ hp b hne hx (.inr (.inl ⟨_, rfl⟩)) (hd.inj _ _ _ _ hf (e ▸ f))
 · obtain ⟨j, e⟩ := nmAt_old D p a s k
   exact h j y (by rwa [← e])
 · subst e
   exact absurd (hd.inj _ _ _ _ hf hq ▸ ofJ_neu hp b hne hx _) hn
theorem Stp.new {D : DiskD} (hd : DI D) {nm x : ByteArray} (hp : PlainB nm) (hx : OfJ nm x) {p s n : Nat} (hps : p ∉ psOf D.files) (a : Int) (z : Sec) : Stp nm D (wrNew D p s n x a z) := by
 refine ⟨fun d b hne V c g h => ⟨h.lv.new hd b (ofJ_neu hp b hne hx _) hps, h.own.step fun y hy => by rw [nmAt_new_len, find_made, if_neg (ne_ofJ hp b hne hx hy)], fun c' hc' => (h.now c' hc').new⟩, fun nms hm h k y hy => ?_, fun d b hne V h => h.step b (fun k => ?_) fun q A y _ hq hF => hF.new (p := p) fun e => hps (e ▸ hF.mem), rfl⟩
 rcases nmAt_new D p s n x a z k with ⟨j, e⟩ | e
 · exact h j y (by rwa [← e])
 · rw [e, find_made] at hy
   split at hy
   · rename_i e1; exact ⟨nm, hm, e1 ▸ hx⟩
   · exact h _ y hy
 · rcases nmAt_new D p s n x a z k with ⟨j, q⟩ | q
   · exact ⟨j, fun y _ => by rw [q]⟩
   · exact ⟨_, fun y hy => by rw [q, find_made, if_neg (fun q : x = y => hy (q ▸ ofJ_neu hp b hne hx _))]⟩
theorem Stp.sync {D : DiskD} (nm : ByteArray) (p : Nat) : Stp nm D (syncD D p) :=
 ⟨fun nm2 hp2 hne V c g h => ⟨h.lv.sync hp2 p, h.own.step fun y hy => by rw [len_sync], fun c' hc' => (h.now c' hc').sync p⟩, fun nms hm h k y hy => h _ y (by rwa [nmAt_sync] at hy), fun nm2 hp2 hne V h => h.step hp2 (fun k => ⟨_, fun x _ => by rw [nmAt_sync]⟩) fun q A x _ _ h => h.sync p, rfl⟩
theorem Stp.rm {D : DiskD} (hd : DI D) {nm x : ByteArray} (hp : PlainB nm) (hx : OfJ nm x) : Stp nm D (tick (addS D (rmS x))) := by
 refine ⟨fun b a hne V c g h => ⟨h.lv.rm hd a (ofJ_neu hp a hne hx _), h.own.step fun y hy => by rw [len_rm, find_rm (hd.mok _), if_neg (ne_ofJ hp a hne hx hy)], fun c' hc' => (h.now c' hc').tk _⟩, fun nms hm h k y hy => ?_, fun b a hne V h => h.step a (fun k => ?_) fun q A x _ _ h => h.add (by show (2 : Int) ≠ 3; decide), rfl⟩
 · rcases nmAt_add D (rmS x) k with ⟨j, e⟩ | e
   · exact h j y (by rwa [show nmAt (tick (addS D (rmS x))) k = nmAt (addS D (rmS x)) k from rfl, e] at hy)
   · rw [show nmAt (tick (addS D (rmS x))) k = nmAt (addS D (rmS x)) k from rfl, e, find_rm (hd.mok _)] at hy
     split at hy
     · exact absurd rfl hy
     · exact h _ y hy
 · rcases nmAt_add D (rmS x) k with ⟨j, q⟩ | q
   · exact ⟨j, fun y _ => by rw [show nmAt (tick (addS D (rmS x))) k = nmAt (addS D (rmS x)) k from rfl, q]⟩
   · exact ⟨_, fun y hy => by rw [show nmAt (tick (addS D (rmS x))) k = nmAt (addS D (rmS x)) k from rfl, q, find_rm (hd.mok _), if_neg (fun q : x = y => hy (q ▸ ofJ_neu hp a hne hx _))]⟩
theorem Stp.rn {D : DiskD} (hd : DI D) {nm x y : ByteArray} (hp : PlainB nm) (hx : OfJ nm x) (hy : OfJ nm y) {o : Option Nat} (hf : mfind x (nmAt D D.steps.length) = some o) : Stp nm D (tick (addS D (rnS x y))) := by
 refine ⟨fun b a hne V c g h => ⟨h.lv.rn hd a (ofJ_neu hp a hne hx _) (ofJ_neu hp a hne hy _) hf, h.own.step fun z hz => by rw [len_rm, find_rn (hd.mok _) hf, if_neg (ne_ofJ hp a hne hx hz), if_neg (ne_ofJ hp a hne hy hz)], fun c' hc' => (h.now c' hc').tk _⟩, fun nms hm h k z hz => ?_, fun b a hne V h => h.step a (fun k => ?_) fun q A x _ _ h => h.add (by show (1 : Int) ≠ 3; decide), rfl⟩
 · rcases nmAt_add D (rnS x y) k with ⟨j, e⟩ | e
   · exact h j z (by rwa [show nmAt (tick (addS D (rnS x y))) k = nmAt (addS D (rnS x y)) k from rfl, e] at hz)
   · rw [show nmAt (tick (addS D (rnS x y))) k = nmAt (addS D (rnS x y)) k from rfl, e, find_rn (hd.mok _) hf] at hz
     split at hz
     · exact absurd rfl hz
     · split at hz
       · rename_i e1; exact ⟨nm, hm, e1 ▸ hy⟩
       · exact h _ z hz
 · rcases nmAt_add D (rnS x y) k with ⟨j, q⟩ | q
   · exact ⟨j, fun z _ => by rw [show nmAt (tick (addS D (rnS x y))) k = nmAt (addS D (rnS x y)) k from rfl, q]⟩
   · exact ⟨_, fun z hz => by rw [show nmAt (tick (addS D (rnS x y))) k = nmAt (addS D (rnS x y)) k from rfl, q, find_rn (hd.mok _) hf, if_neg (fun q : x = z => hz (q ▸ ofJ_neu hp a hne hx _)), if_neg (fun q : y = z => hz (q ▸ ofJ_neu hp a hne hy _))]⟩
structure Al (D : DiskD) (n : Nat) : Prop where
 dead : D.dead = false
 arm : D.armed = true → 0 ≤ D.left ∧ D.left ≤ 9223372036854775807
 st : D.steps.length + n ≤ 1000000000
theorem Al.mono {D : DiskD} {n m : Nat} (h : Al D n) (hm : m ≤ n) : Al D m := ⟨h.dead, h.arm, by have := h.st; omega⟩
theorem Al.hl {D : DiskD} {n : Nat} (h : Al D n) : D.armed = true → -9223372036854775808 < D.left ∧ D.left ≤ 9223372036854775807 := fun ha => by
 have := h.arm ha
 omega
theorem Al.hst {D : DiskD} {n : Nat} (h : Al D n) : D.steps.length ≤ 1000000000 := by have := h.st; omega
theorem Al.go {D D' : DiskD} {n m : Nat} (h : Al D n) (hs : ¬ Stops D) (h1 : D'.dead = D.dead) (h2 : D'.armed = D.armed) (h3 : D'.left = lf D.armed D.left) (h4 : D'.steps.length + m ≤ D.steps.length + n) : Al D' m := by
 refine ⟨h1.trans h.dead, fun ha => ?_, by have := h.st; omega⟩
 rw [h2] at ha
 have a := h.arm ha
 have b : ¬ D.left < 1 := fun hl => hs ⟨ha, hl⟩
 rw [h3]
 unfold lf
 rw [ha]
 simp only [if_true]
 omega
theorem sec_back (s : Sec) (h : ∀ i, 64 ≤ i → s i = 0#8) : secOf (secL s) = s := by
 funext i
 unfold secOf secL
 rw [List.getD_eq_getElem?_getD]
 rcases Nat.lt_or_ge i 64 with hi | hi
 · rw [List.getElem?_eq_getElem (by simpa using hi)]
   simp
 · rw [List.getElem?_eq_none (by simpa using hi)]
   exact (h i hi).symm
theorem secB_back {c : Bs} (h : c.length ≤ 63) : secOf (secL (secB c)) = secB c := sec_back _ fun i hi => by
 unfold secB
 rw [List.getD_eq_getElem?_getD, List.getElem?_eq_none (by rw [List.length_cons]; omega)]; rfl
theorem wr_out {D D' : DiskD} (hd : DI D) {n : Nat} (ha : Al D (n + 2)) {x : ByteArray} (hx : FForm x) {i : Nat} (hi : i < 65536) (hroom : mfind x (nmAt D D.steps.length) = none → D.now.length < 256) {c : Bs} (hc : c.length ≤ 63) {e : Int} (h : WriteR D x (i : Int) (secL (secB c)) e D') :
 (e = 70 ∧ D' = stopD D ∧ D.armed = true) ∨ (e = 0 ∧ Al D' n ∧ DI D' ∧ ((∃ p, mfind x (nmAt D D.steps.length) = some (some p) ∧ D' = wrOld D p (i : Int) (secB c)) ∨ (mfind x (nmAt D D.steps.length) = none ∧ ∃ p s m, p ∉ psOf D.files ∧ D' = wrNew D p s m x (i : Int) (secB c)))) := by
 have hok := h.ok hd.ok (by have := hx.size.1; unfold maxLen; omega)
 have hw : wArg D x (i : Int) (secL (secB c)) = 0 := by
  unfold wArg
  rw [if_neg (by have := hx.size.2; have := secL_len (secB c); omega), if_neg]
  rintro ⟨a, b⟩
  rw [nm_now hd.ok] at a
  have := hroom a
  omega
 rcases h with ⟨a, b, -⟩ | ⟨a, -, d, b⟩ | ⟨a, -, hs, p, hp, rfl⟩ | ⟨a, -, hs, hp, p, s, m, hps, rfl⟩
 · exact absurd (a.trans hw) b
 · exact .inl ⟨a, b, d.1⟩
 · rw [secB_back hc] at hok ⊢
   refine .inr ⟨a, ha.go hs rfl rfl rfl ?_, hd.old hok, .inl ⟨p, by rw [← nm_now hd.ok]; exact hp, rfl⟩⟩
   show (D.steps ++ [_]).length + n ≤ _
   rw [List.length_append, List.length_singleton]; omega
 · rw [secB_back hc] at hok ⊢
   refine .inr ⟨a, ha.go hs rfl rfl rfl ?_, hd.new hok hx hps, .inr ⟨by rw [← nm_now hd.ok]; exact hp, p, s, m, hps, rfl⟩⟩
   show (D.steps ++ [_] ++ [_]).length + n ≤ _
   rw [List.length_append, List.length_append, List.length_singleton, List.length_singleton]; omega
theorem sync_out {D D' : DiskD} (hd : DI D) {n : Nat} (ha : Al D n) {x : ByteArray} {p : Nat} (hx : mfind x (nmAt D D.steps.length) = some (some p)) {e : Int} (h : SyncR D x e D') : (e = 70 ∧ D' = stopD D ∧ D.armed = true) ∨ (e = 0 ∧ Al D' n ∧ DI D' ∧ D' = syncD D p) := by
 rw [← nm_now hd.ok] at hx
 rcases h with ⟨-, a, -⟩ | ⟨b, -, c, a⟩ | ⟨b, hs, q, hq, rfl⟩
 · rw [hx] at a; cases a
 · exact .inl ⟨b, a, c.1⟩
 · rw [hx] at hq
   injection hq with hq; injection hq with hq
   subst hq
   refine .inr ⟨b, ha.go hs rfl rfl rfl ?_, hd.sync p, rfl⟩
   show (leftS p D.steps).length + n ≤ _
   have : (leftS p D.steps).length ≤ D.steps.length := List.length_filter_le _ _
   omega
theorem rm_out {D D' : DiskD} (hd : DI D) {n : Nat} (ha : Al D (n + 1)) {x : ByteArray} (hs : x.size ≤ maxLen) (hx : mfind x (nmAt D D.steps.length) ≠ none) {e : Int} (h : RemoveR D x e D') : (e = 70 ∧ D' = stopD D ∧ D.armed = true) ∨ (e = 0 ∧ Al D' n ∧ DI D' ∧ D' = tick (addS D (rmS x))) := by
 rw [← nm_now hd.ok] at hx
 rcases h with ⟨-, a, -⟩ | ⟨b, -, c, a⟩ | ⟨b, hst, -, rfl⟩
 · exact absurd a hx
 · exact .inl ⟨b, a, c.1⟩
 · refine .inr ⟨b, ha.go hst rfl rfl rfl ?_, hd.rm hs, rfl⟩
   show (D.steps ++ [_]).length + n ≤ _
   rw [List.length_append, List.length_singleton]; omega
theorem rn_out {D D' : DiskD} (hd : DI D) {n : Nat} (ha : Al D (n + 1)) {x y : ByteArray} (hfx : FForm x) (hfy : FForm y) (hne : x ≠ y) {p : Nat} (hx : mfind x (nmAt D D.steps.length) = some (some p)) {e : Int} (h : RenameR D x y e D') : (e = 70 ∧ D' = stopD D ∧ D.armed = true) ∨ (e = 0 ∧ Al D' n ∧ DI D' ∧ D' = tick (addS D (rnS x y))) := by
 have c := hx
 rw [← nm_now hd.ok] at hx
 rcases h with ⟨-, a, -⟩ | ⟨-, -, a, -⟩ | ⟨b, -, -, d, a⟩ | ⟨b, -, -, hst, ⟨a, -⟩ | ⟨-, rfl⟩⟩
 · rw [hx] at a; cases a
 · exact absurd hfy.size.2 a
 · exact .inl ⟨b, a, d.1⟩
 · exact absurd (toList_inj a) hne
 · have f := hfx.size.1
   have h64' := hfy.size.1
   refine .inr ⟨b, ha.go hst rfl rfl rfl ?_, hd.rn (by unfold maxLen; omega) (by unfold maxLen; omega) hfy c, rfl⟩
   show (D.steps ++ [_]).length + n ≤ _
   rw [List.length_append, List.length_singleton]; omega
theorem nodup_len {α : Type} [DecidableEq α] : ∀ {l m : List α}, l.Nodup → (∀ x ∈ l, x ∈ m) → l.length ≤ m.length
 | [], _, _, _ => Nat.zero_le _
 | x :: l, m, hn, hs => by
  obtain ⟨h1, h2⟩ := List.nodup_cons.1 hn
  have hx := hs x (List.mem_cons_self ..)
  have h3 := nodup_len (l := l) (m := m.erase x) h2 fun y hy => (List.mem_erase_of_ne (fun e : y = x => h1 (e ▸ hy))).2 (hs y (List.mem_cons_of_mem _ hy))
  rw [List.length_erase_of_mem hx] at h3
  have := List.length_pos_of_mem hx
  rw [List.length_cons]; omega
theorem names_len {D : DiskD} (hd : DI D) {l : List ByteArray} (h : ∀ x, mfind x (nmAt D D.steps.length) ≠ none → x ∈ l) : D.now.length ≤ l.length := by
 have a := nodup_len (l := D.now.map (·.1)) (m := l) hd.ok.mnow.keys fun x hx => h x (by
  rw [← nm_now hd.ok]
  exact fun q => mfind_none.1 q hx)
 rwa [List.length_map] at a
def NmC (D : DiskD) (k j : Nat) : Prop := ∃ l : List ByteArray, l.length ≤ j ∧ ∀ x, mfind x (nmAt D k) ≠ none → x ∈ l
def Cap (D : DiskD) (m : Nat) : Prop := ∀ k, NmC D k m
theorem NmC.mono {D : DiskD} {k i j : Nat} (h : NmC D k i) (hij : i ≤ j) : NmC D k j := by obtain ⟨l, h1, h2⟩ := h; exact ⟨l, Nat.le_trans h1 hij, h2⟩
theorem Cap.mono {D : DiskD} {i j : Nat} (h : Cap D i) (hij : i ≤ j) : Cap D j := fun k => (h k).mono hij
theorem NmC.now {D : DiskD} (hd : DI D) {j : Nat} (h : NmC D D.steps.length j) : D.now.length ≤ j := by
 obtain ⟨l, a, b⟩ := h
 exact Nat.le_trans (names_len hd b) a
theorem NmC.of {D D' : DiskD} {k k' j : Nat} (h : NmC D k j) (he : nmAt D' k' = nmAt D k) : NmC D' k' j := by
 obtain ⟨l, a, b⟩ := h
 exact ⟨l, a, fun x hx => b x (by rwa [← he])⟩
def Cp (c : Nat) (D D' : DiskD) : Prop := ∀ j, NmC D D.steps.length j → NmC D' D'.steps.length (j + c) ∧ ∀ m, j + c ≤ m → Cap D m → Cap D' m
theorem Cp.refl (D : DiskD) (c : Nat) : Cp c D D := fun _ h => ⟨h.mono (Nat.le_add_right _ _), fun _ _ h => h⟩
theorem Cp.trans {a b : Nat} {D1 D2 D3 : DiskD} (h : Cp a D1 D2) (k : Cp b D2 D3) : Cp (a + b) D1 D3 := fun j hj => by
 obtain ⟨h1, h2⟩ := h j hj
 obtain ⟨k1, k2⟩ := k _ h1
 exact ⟨by rwa [← Nat.add_assoc], fun m hm hc => k2 m (by omega) (h2 m (by omega) hc)⟩
theorem Cp.then {a : Nat} {D1 D2 D3 : DiskD} (h : Cp a D1 D2) (k : Cp 0 D2 D3) : Cp a D1 D3 := h.trans k
theorem Cp.stop (D : DiskD) : Cp 0 D (stopD D) := fun _ h => ⟨h, fun _ _ h => h⟩
theorem Cp.wr (D : DiskD) (p : Nat) (a : Int) (s : Sec) : Cp 0 D (wrOld D p a s) := fun _ h => ⟨h.of (nmAt_old_len D p a s), fun m _ hc k => by obtain ⟨j, e⟩ := nmAt_old D p a s k; exact (hc j).of e⟩
theorem Cp.sync (D : DiskD) (p : Nat) : Cp 0 D (syncD D p) := fun _ h => ⟨h.of (len_sync D p), fun m _ hc k => (hc _).of (nmAt_sync p k)⟩
theorem Cp.new (D : DiskD) (p s n : Nat) (x : ByteArray) (a : Int) (z : Sec) : Cp 1 D (wrNew D p s n x a z) := fun j h => by
 obtain ⟨l, h1, h2⟩ := h
 have hm : ∀ {k}, nmAt (wrNew D p s n x a z) k = (mapN (nmL D D.steps.length) ⟨0, some p, noS, x, 0, zeroSec⟩).1 → NmC (wrNew D p s n x a z) k (j + 1) := fun {k} e => by
  refine ⟨x :: l, by rw [List.length_cons]; omega, fun y hy => ?_⟩
  rw [e, find_made] at hy
  split at hy
  · rename_i e1; rw [e1]; exact List.mem_cons_self ..
  · exact List.mem_cons_of_mem _ (h2 y hy)
 refine ⟨hm (nmAt_new_len ..), fun m hj hc k => ?_⟩
 rcases nmAt_new D p s n x a z k with ⟨i, e⟩ | e
 · exact (hc i).of e
 · exact (hm e).mono hj
theorem Cp.add {D : DiskD} {s : StepD} (hj : ∀ j, NmC D D.steps.length j → ∃ l : List ByteArray, l.length ≤ j ∧ ∀ x, mfind x (mapN (nmL D D.steps.length) s).1 ≠ none → x ∈ l) : Cp 0 D (tick (addS D s)) := fun j h => by
 obtain ⟨l, h1, h2⟩ := hj j h
 have hm : ∀ {k}, nmAt (tick (addS D s)) k = (mapN (nmL D D.steps.length) s).1 → NmC (tick (addS D s)) k j := fun {k} e => ⟨l, h1, fun x hx => h2 x (by rwa [← e])⟩
 refine ⟨hm (len_rm D s), fun m hj hc k => ?_⟩
 rcases nmAt_add D s k with ⟨i, e⟩ | e
 · exact (hc i).of e
 · exact (hm e).mono hj
theorem Cp.rm {D : DiskD} (hd : DI D) (x : ByteArray) : Cp 0 D (tick (addS D (rmS x))) := Cp.add fun j h => by
 obtain ⟨l, h1, h2⟩ := h
 refine ⟨l, h1, fun y hy => ?_⟩
 rw [find_rm (hd.mok _)] at hy
 split at hy
 · exact absurd rfl hy
 · exact h2 y hy
theorem swap_len {α : Type} [DecidableEq α] {l : List α} {x y : α} (hx : x ∈ l) : ∃ l' : List α, l'.length ≤ l.length ∧ y ∈ l' ∧ ∀ z ∈ l, z ≠ x → z ∈ l' := by
 refine ⟨y :: l.erase x, ?_, List.mem_cons_self .., fun z hz hne => List.mem_cons_of_mem _ ((List.mem_erase_of_ne hne).2 hz)⟩
 rw [List.length_cons, List.length_erase_of_mem hx]
 have := List.length_pos_of_mem hx
 omega
theorem Cp.rn {D : DiskD} (hd : DI D) {x y : ByteArray} {o : Option Nat} (hf : mfind x (nmAt D D.steps.length) = some o) : Cp 0 D (tick (addS D (rnS x y))) := Cp.add fun j h => by
 obtain ⟨l, h1, h2⟩ := h
 have hx := h2 x (by rw [hf]; nofun)
 obtain ⟨l', k1, k2, k3⟩ := swap_len (y := y) hx
 refine ⟨l', Nat.le_trans k1 h1, fun z hz => ?_⟩
 rw [find_rn (hd.mok _) hf] at hz
 split at hz
 · exact absurd rfl hz
 · rename_i h3
   split at hz
   · rename_i e; rw [← e]; exact k2
   · exact k3 z (h2 z hz) fun e => h3 e.symm
theorem Cap.crash {D : DiskD} {m : Nat} (h : Cap D m) (xs : List (BitVec 8)) (ns : Nat → Nat) (nb : Nat) : Cap (crashD D xs ns nb) m := fun k => by
 obtain ⟨i, e⟩ := nmAt_crash (D := D) xs ns nb
 exact (h i).of (e k)
theorem AllOf.crash {D : DiskD} {nms : List ByteArray} (h : AllOf D nms) (xs : List (BitVec 8)) (ns : Nat → Nat) (nb : Nat) : AllOf (crashD D xs ns nb) nms := fun k x hx => by
 obtain ⟨i, e⟩ := nmAt_crash (D := D) xs ns nb
 exact h i x (by rwa [← e k])
end Go.Proofs.YtdnibpclkhenmaaGreatDoor
