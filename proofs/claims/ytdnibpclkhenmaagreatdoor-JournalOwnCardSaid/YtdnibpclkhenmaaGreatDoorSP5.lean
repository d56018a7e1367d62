import Derived.Test.YtdnibpclkhenmaaGreatDoorSP4
namespace Go.Proofs.YtdnibpclkhenmaaGreatDoor
open Go.BX
structure Rdy (D : DiskD) : Prop where
 di : DI D
 dead : D.dead = false
 st : D.steps.length ≤ 1000000000
 hl : D.armed = true → -9223372036854775808 < D.left ∧ D.left ≤ 9223372036854775807
theorem Al.rdy {D : DiskD} {n : Nat} (h : Al D n) (hd : DI D) : Rdy D := ⟨hd, h.dead, h.hst, h.hl⟩
structure WrP (x : ByteArray) (τ : Bs) (Pd : Nat → DiskD → Prop) (Qd : DiskD → Prop) : Prop where
 go : ∀ i D, Pd i D → Rdy D
 step : ∀ i D e D', Pd i D → 63 * i < τ.length → WriteR D x (i : Int) (secL (secB (chunkF τ i))) e D' → (e = 0 ∧ Pd (i + 1) D') ∨ (e = 70 ∧ Qd D')
structure Dd (D0 D : DiskD) (nm : ByteArray) (G : Nat) (P : Bs → List Bs → List Bs → Prop) : Prop where
 di : DI D
 dead : D.dead = true
 st : D.steps.length ≤ 1000000000
 js : JS D nm G P
 stp : Stp nm D0 D
 cp : Cp 1 D0 D
 arm : D0.armed = true
theorem Dd.mono {D0 D : DiskD} {nm : ByteArray} {G G' : Nat} {P P' : Bs → List Bs → List Bs → Prop} (h : Dd D0 D nm G P) (hG : G ≤ G') (hP : ∀ B lo hi, P B lo hi → P' B lo hi) : Dd D0 D nm G' P' := ⟨h.di, h.dead, h.st, h.js.mono hG hP, h.stp, h.cp, h.arm⟩
theorem Dd.of {D0 D : DiskD} {nm : ByteArray} {G n : Nat} {P : Bs → List Bs → List Bs → Prop} (hd : DI D) (ha : Al D n) (hj : JS D nm G P) (hs : Stp nm D0 D) (hc : Cp 1 D0 D) (har : D.armed = true) : Dd D0 (stopD D) nm G P := ⟨hd.stop, rfl, ha.hst, hj.stop, hs.trans (Stp.stop nm D), hc.then (Cp.stop D), hs.arm ▸ har⟩
def dry (D : DiskD) : DiskD := { D with steps := [] }
def Dry (D D' : DiskD) : Prop := ∀ nm G P, JS (dry D) nm G P → JS (dry D') nm G P
theorem Dry.refl (D : DiskD) : Dry D D := fun _ _ _ h => h
theorem Dry.trans {A B C : DiskD} (h : Dry A B) (k : Dry B C) : Dry A C := fun nm G P hj => k nm G P (h nm G P hj)
theorem nmAt_dry (D : DiskD) (k : Nat) : nmAt (dry D) k = D.safe := by
 unfold nmAt nmL dry
 rw [List.take_nil]; rfl
theorem Dry.of {D D' : DiskD} (hs : D'.safe = D.safe) (hf : ∀ q A, (∃ f ∈ D.files, f.p = q ∧ XA A f.safe) → ∃ f ∈ D'.files, f.p = q ∧ XA A f.safe) : Dry D D' := fun nm G P hj =>
 hj.step (fun k => ⟨0, fun V _ h => by rw [nmAt_dry] at h ⊢; rwa [hs]⟩) fun q A h => ⟨hf q A h.safe, fun x hx => (by cases hx)⟩
theorem Dry.wr (D : DiskD) (p : Nat) (a : Int) (s : Sec) : Dry D (wrOld D p a s) := Dry.of rfl fun q A ⟨f, k1, k2, k3⟩ => ⟨_, updF_mem (p := p) (g := putB a s) k1, by split <;> exact k2, by split <;> exact k3⟩
theorem Dry.new (D : DiskD) (p s n : Nat) (x : ByteArray) (a : Int) (z : Sec) : Dry D (wrNew D p s n x a z) := Dry.of rfl fun q A ⟨f, k1, k2, k3⟩ => ⟨f, List.mem_cons_of_mem _ k1, k2, k3⟩
def gO (g : Nat) : Option Sg → Nat
 | none => g + 1
 | some _ => g
theorem fform_s {nm : ByteArray} (hp : PlainB nm) {n : Nat} (h1 : 1 ≤ n) (h2 : n ≤ 1000000) : FForm (sN nm n) := .file hp (.inl rfl) h1 h2
theorem fform_c {nm : ByteArray} (hp : PlainB nm) {n : Nat} (h1 : 1 ≤ n) (h2 : n ≤ 1000000) : FForm (cN nm n) := .file hp (.inr rfl) h1 h2
structure ApS (D0 : DiskD) (nm : ByteArray) (V : VV) (cur : Option Sg) (g : Nat) (r : Bs) (n i : Nat) (D : DiskD) : Prop where
 di : DI D
 al : Al D (n + 200000 - 2 * i)
 stp : Stp nm D0 D
 dry : Dry D0 D
 cp : Cp 1 D0 D
 way : (i = 0 ∧ cur = none ∧ D = D0) ∨ ∃ c, c.hi = hiO cur ++ [r] ∧ c.lo = loO cur ∧ LV D nm V (some c) (gO g cur) ∧ OwnN D nm V (some c) ∧ NowA D c.p (PartA (framesF (hiO cur)) (framesF (hiO cur ++ [r])) i)
theorem LV.segN {D : DiskD} {nm : ByteArray} {V : VV} {c : Sg} {g : Nat} (h : LV D nm V (some c) g) : mfind (sN nm g) (nmAt D D.steps.length) = some (some c.p) ∧ c.n = g ∧ 1 ≤ g := by
 obtain ⟨⟨a, _, -⟩, -⟩ := h.cur c rfl
 have := h.nowN.s2 c (List.mem_append_right _ (List.mem_singleton_self _))
 rw [a] at this
 exact ⟨this, a, by omega⟩
theorem OwnN.same {D D' : DiskD} {nm : ByteArray} {V : VV} {cur cur' : Option Sg} (h : OwnN D nm V cur) (he : nmAt D' D'.steps.length = nmAt D D.steps.length) (hc : ∀ s ∈ (V.addO cur).segs, ∃ t ∈ (V.addO cur').segs, t.n = s.n) : OwnN D' nm V cur' := fun x hx hn => by
 rcases h x hx (by rwa [← he]) with h1 | h1 | ⟨s, hs, rfl⟩
 · exact .inl h1
 · exact .inr (.inl h1)
 · obtain ⟨t, ht, e⟩ := hc s hs
   exact .inr (.inr ⟨t, ht, by rw [e]⟩)
theorem ApS.start {D : DiskD} (hd : DI D) {nm : ByteArray} {V : VV} {cur : Option Sg} {g n : Nat} {r : Bs} (ha : Al D (n + 200000)) (h : LJ D nm V cur g) (hr : r.length ≤ 4194304) : ApS D nm V cur g r n ((framesF (hiO cur)).length / 63) D := by
 refine ⟨hd, ha.mono (by omega), Stp.refl _ _, Dry.refl _, Cp.refl _ _, ?_⟩
 cases cur with
 | none => exact .inl ⟨rfl, rfl, rfl⟩
 | some c =>
  obtain ⟨-, -, -, a, -⟩ := h.lv.cur c rfl
  refine .inr ⟨⟨c.n, c.p, c.lo, c.hi ++ [r]⟩, rfl, rfl, h.lv.more (List.prefix_append _ _) (fun b hb => ?_), h.own.same rfl (fun s hs => ?_), (h.now c rfl).mono (part_start (frames_prefix (List.prefix_append _ _)))⟩
  · rcases List.mem_append.1 hb with hb | hb
    · exact a b hb
    · rw [List.mem_singleton.1 hb]; exact hr
  · rcases List.mem_append.1 hs with hs | hs
    · exact ⟨s, List.mem_append_left _ hs, rfl⟩
    · have : s = c := by simpa using hs
      subst this
      exact ⟨_, List.mem_append_right _ (List.mem_singleton_self _), rfl⟩
theorem apP {D0 : DiskD} {nm : ByteArray} (hp : PlainB nm) {V : VV} {cur : Option Sg} {g n : Nat} {r : Bs} (h0 : LJ D0 nm V cur g) (hg : g < 1000000) (hr : r.length ≤ 4194304) (hlen : (framesF (hiO cur ++ [r])).length ≤ 4000000) (hroom : D0.now.length < 256) :
 WrP (sN nm (gO g cur)) (framesF (hiO cur ++ [r])) (ApS D0 nm V cur g r n) (fun D => Dd D0 D nm (gO g cur) fun B lo hi => B = V.B ∧ V.hi ++ loO cur <+: lo ∧ hi <+: V.hi ++ (hiO cur ++ [r])) := by
 refine ⟨fun i D h => h.al.rdy h.di, fun i D e D' h hi hw => ?_⟩
 have d : i < 65536 := by omega
 have hgO : 1 ≤ gO g cur ∧ gO g cur ≤ 1000000 := by
  cases cur with
  | none => exact ⟨Nat.succ_pos _, hg⟩
  | some c => exact ⟨h0.lv.segN.2.2, Nat.le_of_lt hg⟩
 have hF := fform_s hp hgO.1 hgO.2
 have hOf : OfJ nm (sN nm (gO g cur)) := .inr (.inl ⟨_, rfl⟩)
 have ha : Al D ((n + 200000 - 2 * (i + 1)) + 2) := h.al.mono (by omega)
 have hsN : ∀ {a b}, sN nm a = sN nm b → a = b := fun e => (fN_inj hp hp (.inl rfl) (.inl rfl) e).2.2
 rcases h.way with ⟨rfl, rfl, rfl⟩ | ⟨c, f, l, hL, hO, hN⟩
 · have hroom' : mfind (sN nm (gO g none)) (nmAt D D.steps.length) = none → D.now.length < 256 := fun _ => hroom
   have habs : mfind (sN nm (g + 1)) (nmAt D D.steps.length) = none := by
    cases hm : mfind (sN nm (g + 1)) (nmAt D D.steps.length) with
    | none => rfl
    | some o =>
     obtain ⟨s, hs, e⟩ := h0.lv.nowN.s1 (g + 1) (by show V.last < g + 1; have := h0.lv.top.1; omega) (by rw [hm]; nofun)
     rw [VV.addO_none] at hs
     have := h0.lv.top.2 s hs
     omega
   rcases wr_out h.di ha hF d hroom' (chunk_le _ _) hw with ⟨rfl, rfl, har⟩ | ⟨rfl, ha', hd', ⟨p, hq, -⟩ | ⟨-, p, s, m, hps, rfl⟩⟩
   · exact .inr ⟨rfl, Dd.of h.di h.al (h0.lv.js.mono (Nat.le_succ g) fun B lo hi hh => ⟨hh.1, hh.2.1, hh.2.2.trans (List.prefix_append_right_inj _ |>.2 (List.prefix_append _ _))⟩) h.stp h.cp har⟩
   · rw [show sN nm (gO g none) = sN nm (g + 1) from rfl, habs] at hq; cases hq
   · refine .inl ⟨rfl, hd', ha', (h.stp.trans (Stp.new h.di hp hOf hps _ _)), h.dry.trans (Dry.new _ _ _ _ _ _ _), Cp.new _ _ _ _ _ _ _, .inr ⟨⟨g + 1, p, [], [r]⟩, rfl, rfl, h0.lv.begin h.di hp hr hps, fun x hx hn => ?_, ?_⟩⟩
     · rw [nmAt_new_len, find_made] at hn
       split at hn
       · rename_i e
         exact .inr (.inr ⟨_, List.mem_append_right _ (List.mem_singleton_self _), e.symm⟩)
       · rcases h0.own x hx hn with k | k | ⟨t, ht, e⟩
         · exact .inl k
         · exact .inr (.inl k)
         · rw [VV.addO_none] at ht
           exact .inr (.inr ⟨t, List.mem_append_left _ ht, e⟩)
     · refine NowA.fresh part_new fun j hj => ?_
       unfold PartA
       rw [if_neg (by omega)]
       show zeroSec = secB (chunkF [] j)
       rw [chunk_nil, secB_zero]
 · have hseg := hL.segN
   rcases wr_out h.di ha hF d (fun hn => by rw [hseg.1] at hn; cases hn) (chunk_le _ _) hw with ⟨rfl, rfl, har⟩ | ⟨rfl, ha', hd', ⟨p, hq, rfl⟩ | ⟨hq, -⟩⟩
   · exact .inr ⟨rfl, Dd.of h.di h.al (hL.js.mono (Nat.le_refl _) fun B lo hi hh => ⟨hh.1, by rw [← l]; exact hh.2.1, by rw [← f]; exact hh.2.2⟩) h.stp h.cp har⟩
   · rw [hseg.1] at hq
     injection hq with hq; injection hq with hq
     subst hq
     refine .inl ⟨rfl, hd', ha', h.stp.trans (Stp.wr h.di hp hOf hseg.1 _ _), h.dry.trans (Dry.wr _ _ _ _), h.cp.then (Cp.wr _ _ _ _), .inr ⟨c, f, l, hL.wrC h.di hp ⟨i, rfl, ?_⟩, hO.same (nmAt_old_len ..) (fun s hs => ⟨s, hs, rfl⟩), hN.wr_own part_new part_step⟩⟩
     obtain ⟨-, -, u, -⟩ := hL.cur c rfl
     have := frames_prefix u
     rw [f] at this ⊢
     refine ⟨_, rfl, ?_, List.prefix_refl _⟩
     obtain ⟨q, hq⟩ := this
     rw [← hq]
     unfold chunkF
     rw [List.drop_append, List.take_append]
     exact List.prefix_append _ _
   · rw [hseg.1] at hq; cases hq
theorem ApS.done {D0 D : DiskD} {nm : ByteArray} {V : VV} {cur : Option Sg} {g n i : Nat} {r : Bs} (h : ApS D0 nm V cur g r n i D) (hi : (framesF (hiO cur ++ [r])).length ≤ 63 * i) (hne : 0 < (framesF (hiO cur ++ [r])).length) : ∃ c, c.hi = hiO cur ++ [r] ∧ c.lo = loO cur ∧ LJ D nm V (some c) (gO g cur) := by
 rcases h.way with ⟨rfl, -⟩ | ⟨c, a, b, hL, hO, hN⟩
 · omega
 · refine ⟨c, a, b, hL, hO, fun c' hc' => ?_⟩
   injection hc' with hc'
   subst hc'
   have := hN.mono (part_end (frames_prefix (List.prefix_append _ _)) hi)
   rwa [← a] at this
theorem syncJ {D D' : DiskD} (hd : DI D) {nm : ByteArray} (hp : PlainB nm) {V : VV} {c : Sg} {g n : Nat} (ha : Al D n) (h : LJ D nm V (some c) g) {e : Int} (hs : SyncR D (sN nm g) e D') :
 (e = 70 ∧ Dd D D' nm g fun B lo hi => B = V.B ∧ V.hi ++ c.lo <+: lo ∧ hi <+: V.hi ++ c.hi) ∨ (e = 0 ∧ DI D' ∧ Al D' n ∧ Stp nm D D' ∧ Cp 1 D D' ∧ LJ D' nm V (some ⟨c.n, c.p, c.hi, c.hi⟩) g) := by
 have hseg := h.lv.segN
 rcases sync_out hd ha hseg.1 hs with ⟨rfl, rfl, har⟩ | ⟨rfl, ha', hd', rfl⟩
 · exact .inl ⟨rfl, Dd.of hd ha h.lv.js (Stp.refl _ _) (Cp.refl _ _) har⟩
 · refine .inr ⟨rfl, hd', ha', Stp.sync nm _, (Cp.refl _ 1).then (Cp.sync _ _), h.lv.syncC hd hp (h.now c rfl), h.own.same (len_sync ..) (fun s hs => ?_), fun c' hc' => ?_⟩
   · rcases List.mem_append.1 hs with hs | hs
     · exact ⟨s, List.mem_append_left _ hs, rfl⟩
     · have : s = c := by simpa using hs
       subst this
       exact ⟨_, List.mem_append_right _ (List.mem_singleton_self _), rfl⟩
   · injection hc' with hc'
     subst hc'
     exact (h.now c rfl).sync _
def Junk (nm : ByteArray) (l : Nat) (x : ByteArray) : Prop := (∃ n, x = cN nm n ∧ n < l) ∨ (∃ n, x = sN nm n ∧ n < l) ∨ x = tN nm
theorem Junk.of {nm : ByteArray} {l : Nat} {x : ByteArray} (h : Junk nm l x) : OfJ nm x := by
 rcases h with ⟨n, h, -⟩ | ⟨n, h, -⟩ | h
 · exact .inl ⟨n, h⟩
 · exact .inr (.inl ⟨n, h⟩)
 · exact .inr (.inr h)
theorem Junk.neu {nm : ByteArray} (hp : PlainB nm) {l : Nat} {x : ByteArray} (h : Junk nm l x) : Neu nm l x := by
 rcases h with ⟨n, rfl, hn⟩ | ⟨n, rfl, hn⟩ | rfl
 · exact ⟨fun m e => by have := (fN_inj hp hp (.inr rfl) (.inr rfl) e).2.2; omega, fun m e => absurd (fN_inj hp hp (.inr rfl) (.inl rfl) e).2.1 (by decide)⟩
 · exact ⟨fun m e => absurd (fN_inj hp hp (.inl rfl) (.inr rfl) e).2.1 (by decide), fun m e => by have := (fN_inj hp hp (.inl rfl) (.inl rfl) e).2.2; omega⟩
 · exact ⟨fun m e => absurd e.symm (fN_ne_t hp hp (.inr rfl)), fun m e => absurd e.symm (fN_ne_t hp hp (.inl rfl))⟩
structure DrS (D0 : DiskD) (nm : ByteArray) (V : VV) (g n : Nat) (rest : List ByteArray) (D : DiskD) : Prop where
 di : DI D
 al : Al D (n + rest.length)
 lv : LV D nm V none g
 stp : Stp nm D0 D
 cp : Cp 1 D0 D
 nd : rest.Nodup
 mem : ∀ x ∈ rest, mfind x (nmAt D D.steps.length) ≠ none
 junk : ∀ x, Junk nm V.last x → mfind x (nmAt D D.steps.length) ≠ none → x ∈ rest
theorem DrS.skip {D0 D : DiskD} {nm : ByteArray} {V : VV} {g n : Nat} {x : ByteArray} {rest : List ByteArray} (h : DrS D0 nm V g n (x :: rest) D) (hx : ¬ Junk nm V.last x) : DrS D0 nm V g n rest D :=
 ⟨h.di, h.al.mono (by rw [List.length_cons]; omega), h.lv, h.stp, h.cp, (List.nodup_cons.1 h.nd).2, fun y hy => h.mem y (List.mem_cons_of_mem _ hy), fun y hy hn => by
  rcases List.mem_cons.1 (h.junk y hy hn) with rfl | h1
  · exact absurd hy hx
  · exact h1⟩
theorem DrS.rm {D0 D D' : DiskD} {nm : ByteArray} (hp : PlainB nm) {V : VV} {g n : Nat} {x : ByteArray} {rest : List ByteArray} (h : DrS D0 nm V g n (x :: rest) D) (hx : Junk nm V.last x) {e : Int} (hr : RemoveR D x e D') :
 (e = 70 ∧ Dd D0 D' nm g fun B lo hi => B = V.B ∧ V.hi <+: lo ∧ hi <+: V.hi) ∨ (e = 0 ∧ DrS D0 nm V g n rest D') := by
 have hm := h.mem x (List.mem_cons_self ..)
 have hsz : x.size ≤ maxLen := by
  obtain ⟨o, ho⟩ := Option.ne_none_iff_exists'.1 hm
  have := (h.di.form _ _ _ ho).size.1
  unfold maxLen; omega
 obtain ⟨a, b⟩ := List.nodup_cons.1 h.nd
 rcases rm_out h.di (n := n + rest.length) (h.al.mono (by rw [List.length_cons]; omega)) hsz hm hr with ⟨rfl, rfl, har⟩ | ⟨rfl, ha', hd', rfl⟩
 · refine .inl ⟨rfl, Dd.of h.di h.al (h.lv.js.mono (Nat.le_refl _) fun B lo hi hh => ⟨hh.1, ?_, ?_⟩) h.stp h.cp har⟩
   · have := hh.2.1; simpa [loO] using this
   · have := hh.2.2; simpa [hiO] using this
 · have hf : ∀ y, mfind y (nmAt (tick (addS D (rmS x))) (tick (addS D (rmS x))).steps.length) = if x = y then none else mfind y (nmAt D D.steps.length) := fun y => by rw [len_rm, find_rm (h.di.mok _)]
   refine .inr ⟨rfl, hd', ha', h.lv.rm h.di hp (hx.neu hp), h.stp.trans (Stp.rm h.di hp hx.of), h.cp.then (Cp.rm h.di _), b, fun y hy => ?_, fun y hy hn => ?_⟩
   · rw [hf, if_neg (fun e : x = y => a (e ▸ hy))]
     exact h.mem y (List.mem_cons_of_mem _ hy)
   · rw [hf] at hn
     split at hn
     · exact absurd rfl hn
     · rename_i hne
       rcases List.mem_cons.1 (h.junk y hy hn) with e | c
       · exact absurd e.symm hne
       · exact c
theorem DrS.done {D0 D : DiskD} {nm : ByteArray} (hp : PlainB nm) {V : VV} {g n : Nat} (h : DrS D0 nm V g n [] D) : LJ D nm V none g := by
 refine ⟨h.lv, fun x hx hn => ?_, fun c hc => (by cases hc)⟩
 have hj : ¬ Junk nm V.last x := fun q => by cases h.junk x q hn
 have a : NV nm (nmAt D D.steps.length) V := by have := h.lv.nowN; rwa [VV.addO_none] at this
 rw [VV.addO_none]
 rcases hx with ⟨n, rfl⟩ | ⟨n, rfl⟩ | rfl
 · have f := a.c1 n hn
   have d : ¬ n < V.last := fun q => hj (.inl ⟨n, rfl, q⟩)
   exact .inl (by rw [show n = V.last by omega])
 · have d : ¬ n < V.last := fun q => hj (.inr (.inl ⟨n, rfl, q⟩))
   rcases Nat.lt_or_ge V.last n with b | b
   · obtain ⟨s, hs, e⟩ := a.s1 n b hn
     exact .inr (.inr ⟨s, hs, by rw [e]⟩)
   · exact .inr (.inl (by rw [show n = V.last by omega]))
 · exact absurd (.inr (.inr rfl)) hj
theorem DrS.start {D0 D : DiskD} (hd : DI D) {nm : ByteArray} {V : VV} {g n : Nat} (ha : Al D (n + D.now.length)) (h : LV D nm V none g) (hs : Stp nm D0 D) (hc : Cp 1 D0 D) {ns : List ByteArray} (hns : ns.Perm (D.now.map (·.1))) : DrS D0 nm V g n ns D := by
 have hl : ns.length = D.now.length := by rw [hns.length_eq, List.length_map]
 have hmem : ∀ x, x ∈ ns ↔ mfind x (nmAt D D.steps.length) ≠ none := fun x => by
  rw [← nm_now hd.ok, hns.mem_iff]
  exact ⟨fun hx q => mfind_none.1 q hx, fun q => Classical.byContradiction fun hx => q (mfind_none.2 hx)⟩
 exact ⟨hd, by rw [hl]; exact ha, h, hs, hc, hns.nodup_iff.2 hd.ok.mnow.keys, fun x hx => (hmem x).1 hx, fun x _ hn => (hmem x).2 hn⟩
structure TpS (D0 : DiskD) (nm : ByteArray) (V : VV) (cur : Option Sg) (g : Nat) (b : Bs) (n i : Nat) (D : DiskD) : Prop where
 di : DI D
 al : Al D (n + 200000 - 2 * i)
 stp : Stp nm D0 D
 cp : Cp 1 D0 D
 lv : LV D nm V cur g
 way : (i = 0 ∧ D = D0) ∨ ∃ p, mfind (tN nm) (nmAt D D.steps.length) = some (some p) ∧ NowA D p (PartA [] (frameF b) i)
theorem tN_neu {nm : ByteArray} (hp : PlainB nm) (l : Nat) : Neu nm l (tN nm) := ⟨fun m e => absurd e.symm (fN_ne_t hp hp (.inr rfl)), fun m e => absurd e.symm (fN_ne_t hp hp (.inl rfl))⟩
theorem LJ.noT {D : DiskD} {nm : ByteArray} (hp : PlainB nm) {V : VV} {cur : Option Sg} {g : Nat} (h : LJ D nm V cur g) : mfind (tN nm) (nmAt D D.steps.length) = none := Classical.byContradiction fun hn => by
 rcases h.own (tN nm) (.inr (.inr rfl)) hn with e | e | ⟨s, -, e⟩
 · exact fN_ne_t hp hp (.inr rfl) e.symm
 · exact fN_ne_t hp hp (.inl rfl) e.symm
 · exact fN_ne_t hp hp (.inl rfl) e.symm
abbrev PJ (V : VV) (cur : Option Sg) : Bs → List Bs → List Bs → Prop := fun B lo hi => B = V.B ∧ V.hi ++ loO cur <+: lo ∧ hi <+: V.hi ++ hiO cur
theorem tpP {D0 : DiskD} {nm : ByteArray} (hp : PlainB nm) {V : VV} {cur : Option Sg} {g n : Nat} {b : Bs} (h0 : LJ D0 nm V cur g) (hb : b.length ≤ 3000000) (hroom : D0.now.length < 256) :
 WrP (tN nm) (frameF b) (TpS D0 nm V cur g b n) (fun D => Dd D0 D nm g (PJ V cur)) := by
 refine ⟨fun i D h => h.al.rdy h.di, fun i D e D' h hi hw => ?_⟩
 have a : i < 65536 := by rw [frame_len] at hi; omega
 have hF : FForm (tN nm) := .temp hp
 have hOf : OfJ nm (tN nm) := .inr (.inr rfl)
 have ha : Al D ((n + 200000 - 2 * (i + 1)) + 2) := h.al.mono (by omega)
 rcases h.way with ⟨rfl, rfl⟩ | ⟨p, hT, hN⟩
 · rcases wr_out h.di ha hF a (fun _ => hroom) (chunk_le _ _) hw with ⟨rfl, rfl, har⟩ | ⟨rfl, ha', hd', ⟨p, hq, -⟩ | ⟨-, p, s, m, hps, rfl⟩⟩
   · exact .inr ⟨rfl, Dd.of h.di h.al h.lv.js h.stp h.cp har⟩
   · rw [h0.noT hp] at hq; cases hq
   · refine .inl ⟨rfl, hd', ha', h.stp.trans (Stp.new h.di hp hOf hps _ _), Cp.new _ _ _ _ _ _ _, h.lv.new h.di hp (tN_neu hp _) hps, .inr ⟨p, by rw [nmAt_new_len, find_made, if_pos rfl], NowA.fresh part_new fun j hj => ?_⟩⟩
     unfold PartA
     rw [if_neg (by omega)]
     show zeroSec = secB (chunkF [] j)
     rw [chunk_nil, secB_zero]
 · rcases wr_out h.di ha hF a (fun hn => by rw [hT] at hn; cases hn) (chunk_le _ _) hw with ⟨rfl, rfl, har⟩ | ⟨rfl, ha', hd', ⟨q, hq, rfl⟩ | ⟨hq, -⟩⟩
   · exact .inr ⟨rfl, Dd.of h.di h.al h.lv.js h.stp h.cp har⟩
   · rw [hT] at hq
     injection hq with hq; injection hq with hq
     subst hq
     exact .inl ⟨rfl, hd', ha', h.stp.trans (Stp.wr h.di hp hOf hT _ _), h.cp.then (Cp.wr _ _ _ _), h.lv.wr h.di hp (tN_neu hp _) hT, .inr ⟨p, by rw [nmAt_old_len]; exact hT, hN.wr_own part_new part_step⟩⟩
   · rw [hT] at hq; cases hq
theorem TpS.start {D : DiskD} (hd : DI D) {nm : ByteArray} {V : VV} {cur : Option Sg} {g n : Nat} {b : Bs} (ha : Al D (n + 200000)) (h : LJ D nm V cur g) : TpS D nm V cur g b n 0 D := ⟨hd, ha, Stp.refl _ _, Cp.refl _ _, h.lv, .inl ⟨rfl, rfl⟩⟩
structure TpD (D0 : DiskD) (nm : ByteArray) (V : VV) (cur : Option Sg) (g : Nat) (b : Bs) (n : Nat) (A : DiskD → Nat → Prop) (D : DiskD) : Prop where
 di : DI D
 al : Al D n
 stp : Stp nm D0 D
 cp : Cp 1 D0 D
 lv : LV D nm V cur g
 way : ∃ p, mfind (tN nm) (nmAt D D.steps.length) = some (some p) ∧ A D p
theorem TpS.done {D0 D : DiskD} {nm : ByteArray} {V : VV} {cur : Option Sg} {g n i : Nat} {b : Bs} (h : TpS D0 nm V cur g b n i D) (hi : (frameF b).length ≤ 63 * i) (hb : b.length ≤ 3000000) (hi6 : i ≤ 65536) : TpD D0 nm V cur g b n (fun D p => NowA D p (BtwA (frameF b) (frameF b))) D := by
 rcases h.way with ⟨rfl, -⟩ | ⟨p, hT, hN⟩
 · rw [frame_len] at hi; omega
 · exact ⟨h.di, h.al.mono (by omega), h.stp, h.cp, h.lv, p, hT, hN.mono (part_end List.nil_prefix hi)⟩
theorem TpD.sync {D0 D D' : DiskD} {nm : ByteArray} (hp : PlainB nm) {V : VV} {cur : Option Sg} {g n : Nat} {b : Bs} (h : TpD D0 nm V cur g b n (fun D p => NowA D p (BtwA (frameF b) (frameF b))) D) {e : Int} (hs : SyncR D (tN nm) e D') :
 (e = 70 ∧ Dd D0 D' nm g (PJ V cur)) ∨ (e = 0 ∧ TpD D0 nm V cur g b n (fun D p => FilA D p (BtwA (frameF b) (frameF b))) D') := by
 obtain ⟨p, hT, hN⟩ := h.way
 rcases sync_out h.di h.al hT hs with ⟨rfl, rfl, har⟩ | ⟨rfl, ha', hd', rfl⟩
 · exact .inl ⟨rfl, Dd.of h.di h.al h.lv.js h.stp h.cp har⟩
 · exact .inr ⟨rfl, hd', ha', h.stp.trans (Stp.sync nm p), h.cp.then (Cp.sync _ _), h.lv.sync hp p, p, by rw [len_sync]; exact hT, FilA.synced (h.di.nsAt hT) hN⟩
structure CkS (D0 : DiskD) (nm : ByteArray) (V : VV) (cur : Option Sg) (g : Nat) (b : Bs) (n : Nat) (D : DiskD) : Prop where
 di : DI D
 al : Al D n
 stp : Stp nm D0 D
 cp : Cp 1 D0 D
 js : JS D nm (g + 1) fun B lo hi => PJ V cur B lo hi ∨ (B = b ∧ hi = [])
 way : ∃ p, mfind (cN nm (g + 1)) (nmAt D D.steps.length) = some (some p) ∧ LV (syncD D p) nm ⟨g + 1, p, b, []⟩ none (g + 1)
theorem TpD.rn {D0 D D' : DiskD} {nm : ByteArray} (hp : PlainB nm) {V : VV} {cur : Option Sg} {g n : Nat} {b : Bs} (hg : g < 1000000) (hb : b.length ≤ 3000000) (h : TpD D0 nm V cur g b (n + 1) (fun D p => FilA D p (BtwA (frameF b) (frameF b))) D) {e : Int} (hs : RenameR D (tN nm) (cN nm (g + 1)) e D') :
 (e = 70 ∧ Dd D0 D' nm g (PJ V cur)) ∨ (e = 0 ∧ CkS D0 nm V cur g b n D') := by
 obtain ⟨p, hT, hA⟩ := h.way
 rcases rn_out h.di h.al (.temp hp) (fform_c hp (Nat.succ_pos g) hg) (fun e => fN_ne_t hp hp (.inr rfl) e.symm) hT hs with ⟨rfl, rfl, har⟩ | ⟨rfl, ha', hd', rfl⟩
 · exact .inl ⟨rfl, Dd.of h.di h.al h.lv.js h.stp h.cp har⟩
 · obtain ⟨a, c, d⟩ := h.lv.turn h.di hp (by omega) hT hA
   exact .inr ⟨rfl, hd', ha', h.stp.trans (Stp.rn h.di hp (.inr (.inr rfl)) (.inl ⟨_, rfl⟩) hT), h.cp.then (Cp.rn h.di hT), a, p, d, c⟩
theorem CkS.sync {D0 D D' : DiskD} {nm : ByteArray} {V : VV} {cur : Option Sg} {g n : Nat} {b : Bs} (h : CkS D0 nm V cur g b n D) {e : Int} (hs : SyncR D (cN nm (g + 1)) e D') :
 (e = 70 ∧ Dd D0 D' nm (g + 1) fun B lo hi => PJ V cur B lo hi ∨ (B = b ∧ hi = [])) ∨ (e = 0 ∧ DI D' ∧ Al D' n ∧ Stp nm D0 D' ∧ Cp 1 D0 D' ∧ ∃ p, LV D' nm ⟨g + 1, p, b, []⟩ none (g + 1)) := by
 obtain ⟨p, hT, hL⟩ := h.way
 rcases sync_out h.di h.al hT hs with ⟨rfl, rfl, har⟩ | ⟨rfl, ha', hd', rfl⟩
 · exact .inl ⟨rfl, Dd.of h.di h.al h.js h.stp h.cp har⟩
 · exact .inr ⟨rfl, hd', ha', h.stp.trans (Stp.sync nm p), h.cp.then (Cp.sync _ _), p, hL⟩
end Go.Proofs.YtdnibpclkhenmaaGreatDoor
