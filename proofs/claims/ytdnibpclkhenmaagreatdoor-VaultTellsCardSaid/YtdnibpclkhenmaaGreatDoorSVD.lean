import Derived.Test.YtdnibpclkhenmaaGreatDoorSBxB
import Derived.Test.YtdnibpclkhenmaaGreatDoorSV7
import Derived.Test.YtdnibpclkhenmaaGreatDoorSVC
namespace Go.Proofs.YtdnibpclkhenmaaGreatDoor
open Go.BX
theorem RH.mapGetF {α β : Type} {P : Program} {n : Nat} {ds : List Deferred} {ops : Array Oper} {K : Env → World → Prop} {l r : List (Nat × Kd)} {σ : Env} {w1 w : World} {d : Option Tmp} {w0 : World} {S : Nat → Prop} {O : List Nat} {M : Heap} {W : List OwnS} {G : List Fact} {mk : α → Value} {vk : β → Value} {L : List (α × β × Nat)} {b c : Nat} {T : TypeId} [DecidableEq α] {Kt E : TypeId} {z : β} (x : α) (ok : Bool) (q : Option β) {v : Value} (hl : Go.BX.look P n ops l σ = some (Kd.qui, semV (Instr.lookup T (.map (some b)) (mk x) ok), d, r)) (hS : Chg w1 [] w) (H : Hp w0 S O M W G w1) (i : Nat) (hm : M[i]? = some (b, mapO mk vk L c))
 (hk : KeyOk P Kt mk) (hT : P.underlying T = some (.map Kt E)) (hz : ∀ w, (zeroValue E).run P w = .ok (vk z) w) (hf : mfind x L = q) (hv : (if ok then .tuple #[vk (q.getD z), .bool q.isSome] else vk (q.getD z)) = v)
 (h : RH P ops n ds w1 [] K r (putO d v σ) w) : RH P ops n ds w1 [] K l σ w := by
 have hb := (H.own _ (List.mem_of_getElem? hm)).1
 have hlt := (Array.getElem?_eq_some_iff.1 hb).1
 exact RH.readS hl hS (fun w' he => semV_run (by rw [← hv, ← hf]; exact lookup_run hk hT hz x ok (by rw [he.block b hlt (by simp)]; exact hb))) h
theorem hdr_eqb (a b : Hdr) : ([((a.id.version : Int) == b.id.version), ((a.id.index : Int) == b.id.index), ((a.id.epoch : Int) == b.id.epoch), ((a.kk : Int) == b.kk), ((a.nn : Int) == b.nn), ((a.size : Int) == b.size), ((((a.sum.toNat : Nat) : Int) : Int) == ((b.sum.toNat : Nat) : Int))].all id) = decide (a = b) := by
 obtain ⟨⟨v, i, e⟩, k, n, s, c⟩ := a
 obtain ⟨⟨v', i', e'⟩, k', n', s', c'⟩ := b
 rw [Bool.eq_iff_iff]
 simp only [List.all_cons, List.all_nil, id, Bool.and_true, Bool.and_eq_true, beq_iff_eq, decide_eq_true_eq, Hdr.mk.injEq, CID.mk.injEq, Int.ofNat_inj]
 constructor
 · rintro ⟨d, f, g, h, j, l, m⟩
   exact ⟨⟨d, f, g⟩, h, j, l, BitVec.eq_of_toNat_eq m⟩
 · rintro ⟨⟨d, f, g⟩, h, j, l, m⟩
   exact ⟨d, f, g, h, j, l, by rw [m]⟩
theorem whole_len {h : Hdr} {d : List (BitVec 8)} (hw : wholeE h d = 0) : d.length ≤ 65536 := by
 unfold wholeE at hw
 split at hw
 · omega
 · rename_i h1
   split at hw
   · omega
   · rename_i h2
     have b : ezI h.size h.kk h.nn = 0 := by omega
     have a := ez_ok b
     have c := a
     unfold okZ at c
     unfold lzI at h2
     rw [if_pos a] at h2
     have e := lenOf_le (size := h.size.toNat) (k := h.kk.toNat) (by omega)
     omega
theorem vprep_found {S : Nat → Prop} {w : World} {O : List Nat} {vb jb db mb g : Nat} {nm seg : ByteArray} {σ : List (BitVec 8)} {ab ar aσ : Option Addr} {cb cr cσ n m t q c : Nat} {quota : Int} {L : VL} {ds : List Deed} {D0 : DiskD} {sa0 : Option Addr} {sk0 : Nat} {C : Chk} {ax : Option Addr} {cx : Nat} (hW : JW D0 nm [] (ds.map encD) (ds.map encD) g seg σ true n m t q c) (hna : D0.armed = false) (hL : cont L = (runD ds).1) (hall : allD ds) (hC : HdrOk C.head) (hw : wholeE C.head C.data = 0) {C0 : Chk} (hf0 : mfind C.head.id (runD ds).1 = some C0) (H0 : Hp w S O ((vb, .cells #[.P jb 0, .P db 0, .map (some mb), .I quota, .I (usedL (runD ds).1 : Int), .I (ds.length : Int)] 119 (0, 0)) :: (mb, mapO cidV veV L ((runD ds).2)) :: (jb, .cells #[.P db 0, .string nm, .slice ab (([] : List (BitVec 8)).length) cb, .slice ar (ds.map encD).length cr, .I g, .string seg, .slice aσ σ.length cσ, .bool true] 41 (0, 0)) :: (diskM db D0 sa0 sk0)) [⟨SB, 23, .slice ar (ds.map encD).length cr, (ds.map encD)⟩, ⟨stepS, 143, .slice sa0 D0.steps.length sk0, D0.steps⟩] [Rp SB [.slice ab (([] : List (BitVec 8)).length) cb] ([] : List (BitVec 8)), Rp SB [.slice aσ σ.length cσ] σ, Fall L, Fz jQ, Rp SB [.slice ax C.data.length cx] C.data] w) :
 Calls Tryz.prog 39 #[.P vb 0, .agg #[.int .u64 C.head.id.version, .I C.head.id.index, .int .u64 C.head.id.epoch, .I C.head.kk, .I C.head.nn, .I C.head.size, .int .u32 ((C.head.sum.toNat : Nat) : Int), .slice ax C.data.length cx, .bool C.done_]] w (Ret fun v w' => v = .I (if C0.head = C.head ∧ C0.data = C.data then 0 else 93) ∧ Hp w S O ((vb, .cells #[.P jb 0, .P db 0, .map (some mb), .I quota, .I (usedL (runD ds).1 : Int), .I (ds.length : Int)] 119 (0, 0)) :: (mb, mapO cidV veV L ((runD ds).2)) :: (jb, .cells #[.P db 0, .string nm, .slice ab (([] : List (BitVec 8)).length) cb, .slice ar (ds.map encD).length cr, .I g, .string seg, .slice aσ σ.length cσ, .bool true] 41 (0, 0)) :: (diskM db D0 sa0 sk0)) [⟨SB, 23, .slice ar (ds.map encD).length cr, (ds.map encD)⟩, ⟨stepS, 143, .slice sa0 D0.steps.length sk0, D0.steps⟩] [] w') := by
 obtain ⟨⟨_, _, _⟩, _, _, _⟩ := id hC
 obtain ⟨e, f, hf⟩ := cont_some (L := L) (by rw [hL]; exact hf0)
 refine uS1 Tryz.func39 ?_
 have H := H0
 refine uR 1 [.c [0], .c [1]] ?_
 refine qG (sq 0 2) ?_
 refine uC #[.int .u64 C.head.id.version, .I C.head.id.index, .int .u64 C.head.id.epoch, .I C.head.kk, .I C.head.nn, .I C.head.size, .int .u32 ((C.head.sum.toNat : Nat) : Int), .slice ax C.data.length cx, .bool C.done_] 102 H ?_
 intro A _ H
 refine uF 1 ?_
 refine uR 2 [.c [1, 0, 0], .c [1, 0, 1], .c [2]] ?_
 refine qG (sq 0 3) ?_
 refine uP 1 ?_
 have H := H.frontM 3 rfl
 have H := H.frontM 3 rfl
 have H := H.frontM 3 rfl
 have H := H.frontW 1 rfl
 have H := H.frontW 1 rfl
 have H := H.gat 3 1
 refine uKS (vstate_spec (ds := ds) hW hna hL hall ((H.lend (M1 := (_ :: _ :: _ :: (diskM _ _ _ _))) (W1 := [_, _])).pick [0, 1, 2, 3] rfl)) ?_
 rintro _ _ ⟨rfl, H'⟩
 have H := H.back (M1 := (_ :: _ :: _ :: (diskM _ _ _ _))) (W1 := [_, _]) H'
 have H := H.ung 3
 have H : Hp w S O (_ :: _ :: _ :: _ :: _) [_, _] [_, _, _, _, _] _ := H
 refine uF 1 ?_
 refine uR 6 [.c [2, 0, 0], .c [2, 0, 1], .c [3]] ?_
 refine qG (sq 0 3) ?_
 refine uV 102 0 (H.cells 3 rfl) ?_
 refine qK .seq (some 15) (sq 2 3) 37 #[.agg #[.int .u64 C.head.id.version, .I C.head.id.index, .int .u64 C.head.id.epoch, .I C.head.kk, .I C.head.nn, .I C.head.size, .int .u32 ((C.head.sum.toNat : Nat) : Int), .slice ax C.data.length cx, .bool C.done_]] (whole_spec (C := C) (chk_mk (hdr_mk (cid_mk u64a i64a u64a) i64a i64a i64a Shape.bv_mk) (H.rp 4 rfl) Shape.bool_mk)) ?_
 rintro _ _ B rfl
 have H := H.ext B
 refine uF 1 ?_
 refine uR 2 [.c [2, 0, 2], .c [3]] ?_
 refine qN (wholeE C.head C.data) 0 (fun D => ?_) (fun D => ?_)
 ·
  exact absurd hw D
 ·
  refine uR 3 [.c [3, 0, 0], .c [3, 0, 1], .c [4]] ?_
  refine WK.drawH1 [] (.leaf [(0, .qui), (1, .qui), (2, .qui), (3, .qui), (4, .qui), (5, .qui), (6, .qui), (7, .qui), (8, .qui), (9, .qui), (10, .qui), (11, .seq), (12, .seq), (13, .qui)]) Tryz_mixed (by as_aux_lemma => kernel_rfl) (by as_aux_lemma => kernel_rfl) ?_
  intro G x
  have H := H.draw
  rw [← x] at H
  clear x
  have hS := Chg.refl G []
  refine RG.leaf' [(0, .qui), (1, .qui), (2, .qui), (3, .qui), (4, .qui), (5, .qui), (6, .qui), (7, .qui), (8, .qui), (9, .qui), (10, .qui), (11, .seq), (12, .seq), (13, .qui)] (by as_aux_lemma => kernel_rfl) ?_
  refine uHP hS 3 ?_
  refine uHV 117 2 hS (H.cells 0 rfl) nq0 ?_
  refine uHP hS 2 ?_
  refine uHV 82 0 hS (H.cells 3 rfl) nq0 ?_
  refine RH.mapGetF (d := some 27) (r := [(8, .qui), (9, .qui), (10, .qui), (11, .seq), (12, .seq), (13, .qui)]) (T := 117) (mk := cidV) (vk := veV) (Kt := 82) (E := 102) (z := zVE) C.head.id true (some ⟨C0, e, f⟩) (v := .tuple #[.agg #[.int .u64 C0.head.id.version, .I C0.head.id.index, .int .u64 C0.head.id.epoch, .I C0.head.kk, .I C0.head.nn, .I C0.head.size, .int .u32 ((C0.head.sum.toNat : Nat) : Int), .slice e C0.data.length f, .bool C0.done_], .bool true]) (by as_aux_lemma => kernel_rfl) hS H 1 rfl (cid_key) (by as_aux_lemma => kernel_rfl) (fun w_ => zeroE_run (by as_aux_lemma => kernel_rfl) w_) (hf) rfl ?_
  have H := H.add (F := Rp SB [.slice e C0.data.length f] C0.data) (Fall.at (H.fact 2 rfl) (hf))
  refine uHP hS 3 ?_
  have Hr := H
  refine RH.chn hS ?_
  refine RW.newC (κ := .chn) (d := some 7) (r := []) (o := .cells #[.int .u64 0, .I 0, .int .u64 0, .I 0, .I 0, .I 0, .int .u32 0, .slice none 0 0, .bool false] 102 (0, 0)) (v := fun b => .P b 0) (fun b => by as_aux_lemma => kernel_rfl) (nofun) H ?_
  intro h _ p H
  have s := Nat.le_trans hS.size p
  intro hS
  refine RH.sto ?_
  refine qWC 102 h 0 [] (.agg #[.int .u64 C0.head.id.version, .I C0.head.id.index, .int .u64 C0.head.id.epoch, .I C0.head.kk, .I C0.head.nn, .I C0.head.size, .int .u32 ((C0.head.sum.toNat : Nat) : Int), .slice e C0.data.length f, .bool C0.done_]) ((h, .cells #[.int .u64 C0.head.id.version, .I C0.head.id.index, .int .u64 C0.head.id.epoch, .I C0.head.kk, .I C0.head.nn, .I C0.head.size, .int .u32 ((C0.head.sum.toNat : Nat) : Int), .slice e C0.data.length f, .bool C0.done_] 102 (0, 0)) :: (vb, .cells #[.P jb 0, .P db 0, .map (some mb), .I quota, .I (usedL (runD ds).1 : Int), .I (ds.length : Int)] 119 (0, 0)) :: (mb, mapO cidV veV L ((runD ds).2)) :: (jb, .cells #[.P db 0, .string nm, .slice ab (([] : List (BitVec 8)).length) cb, .slice ar (ds.map encD).length cr, .I g, .string seg, .slice aσ σ.length cσ, .bool true] 41 (0, 0)) :: (A, .cells #[.int .u64 C.head.id.version, .I C.head.id.index, .int .u64 C.head.id.epoch, .I C.head.kk, .I C.head.nn, .I C.head.size, .int .u32 ((C.head.sum.toNat : Nat) : Int), .slice ax C.data.length cx, .bool C.done_] 102 (0, 0)) :: (diskM db D0 sa0 sk0)) H 0 rfl rfl ?_
  intro _ u H
  have i := hS.sto u (.inl s)
  refine ⟨i, ?_⟩
  have hS := i
  refine uHF hS 1 ?_
  refine uR 5 [.c [3, 0, 2, 0, 0, 0], .c [3, 0, 2, 0, 0, 1], .c [3, 0, 2, 0, 1], .c [4]] ?_
  refine qG (sq 0 12) ?_
  refine uP 1 ?_
  refine uV 100 0 (H.cells 0 rfl) ?_
  refine uP 1 ?_
  refine uV 100 0 (H.cells 4 rfl) ?_
  refine RW.eqA (κ := .seq) (d := some 35) (r := (sq 5 12)) (T := 100) (xs := #[.int .u64 C0.head.id.version, .I C0.head.id.index, .int .u64 C0.head.id.epoch, .I C0.head.kk, .I C0.head.nn, .I C0.head.size, .int .u32 ((C0.head.sum.toNat : Nat) : Int)]) (ys := #[.int .u64 C.head.id.version, .I C.head.id.index, .int .u64 C.head.id.epoch, .I C.head.kk, .I C.head.nn, .I C.head.size, .int .u32 ((C.head.sum.toNat : Nat) : Int)]) (ox := (.tmp 32)) (oy := (.tmp 34)) [((C0.head.id.version : Int) == C.head.id.version), ((C0.head.id.index : Int) == C.head.id.index), ((C0.head.id.epoch : Int) == C.head.id.epoch), ((C0.head.kk : Int) == C.head.kk), ((C0.head.nn : Int) == C.head.nn), ((C0.head.size : Int) == C.head.size), ((((C0.head.sum.toNat : Nat) : Int) : Int) == ((C.head.sum.toNat : Nat) : Int))] (by as_aux_lemma => kernel_rfl) (by as_aux_lemma => kernel_rfl) (by as_aux_lemma => kernel_rfl) ?_
  refine qP 1 (sq 6 12) [(3, .P A 0), (7, .P h 0), (36, .bool ([((C0.head.id.version : Int) == C.head.id.version), ((C0.head.id.index : Int) == C.head.id.index), ((C0.head.id.epoch : Int) == C.head.id.epoch), ((C0.head.kk : Int) == C.head.kk), ((C0.head.nn : Int) == C.head.nn), ((C0.head.size : Int) == C.head.size), ((((C0.head.sum.toNat : Nat) : Int) : Int) == ((C.head.sum.toNat : Nat) : Int))].all id))] ?_
  refine uT 36 ([((C0.head.id.version : Int) == C.head.id.version), ((C0.head.id.index : Int) == C.head.id.index), ((C0.head.id.epoch : Int) == C.head.id.epoch), ((C0.head.kk : Int) == C.head.kk), ((C0.head.nn : Int) == C.head.nn), ((C0.head.size : Int) == C.head.size), ((((C0.head.sum.toNat : Nat) : Int) : Int) == ((C.head.sum.toNat : Nat) : Int))].all id) (fun a => ?_) (fun a => ?_)
  ·
   rw [hdr_eqb] at a
   have j := of_decide_eq_true a
   refine uP 1 ?_
   refine uV 23 7 (H.cells 0 rfl) ?_
   refine uP 1 ?_
   refine uV 23 7 (H.cells 4 rfl) ?_
   refine uK (equalB_spec (xs := C0.data) (ys := C.data) (H.rp 0 rfl) (H.rp 5 rfl)) ?_
   rintro _ _ y rfl
   have H := H.ext y
   refine uF 1 ?_
   refine qD (C0.data = C.data) (fun k => ?_) (fun k => ?_)
   ·
    have l := k
    refine uR 2 [.c [3, 0, 2, 0, 0, 1, 0, 1], .c [3, 0, 2, 0, 1], .c [4]] ?_
    refine qT (.I 0) Tryz.func39 ?_
    have H := H.pick [] rfl
    have H := H.frontM 3 rfl
    have H := H.frontM 3 rfl
    have H := H.frontM 3 rfl
    have H := H.frontM 4 rfl
    have H := H.frontM 4 rfl
    have H := H.dropM 1
    have H := H.dropM 0
    exact ⟨_, rfl, by rw [if_pos ⟨j, l⟩], H⟩
   ·
    have l := k
    refine uR 3 [.c [3, 0, 2, 0, 2], .c [4]] ?_
    refine qT (.I 93) Tryz.func39 ?_
    have H := H.pick [] rfl
    have H := H.frontM 3 rfl
    have H := H.frontM 3 rfl
    have H := H.frontM 3 rfl
    have H := H.frontM 4 rfl
    have H := H.frontM 4 rfl
    have H := H.dropM 1
    have H := H.dropM 0
    exact ⟨_, rfl, by rw [if_neg (fun q => l q.2)], H⟩
  ·
   rw [hdr_eqb] at a
   have j := of_decide_eq_false a
   refine uF 6 ?_
   refine uR 4 [.c [3, 0, 2, 0, 2], .c [4]] ?_
   refine qT (.I 93) Tryz.func39 ?_
   have H := H.pick [] rfl
   have H := H.frontM 3 rfl
   have H := H.frontM 3 rfl
   have H := H.frontM 3 rfl
   have H := H.frontM 4 rfl
   have H := H.frontM 4 rfl
   have H := H.dropM 1
   have H := H.dropM 0
   exact ⟨_, rfl, by rw [if_neg (fun q => j q.1)], H⟩
set_option maxHeartbeats 1000000 in
theorem vprep_new {S : Nat → Prop} {w : World} {O : List Nat} {vb jb db mb g : Nat} {nm seg : ByteArray} {σ : List (BitVec 8)} {ab ar aσ : Option Addr} {cb cr cσ n m t q c : Nat} {quota : Int} {L : VL} {ds : List Deed} {D0 : DiskD} {sa0 : Option Addr} {sk0 : Nat} {C : Chk} {ax : Option Addr} {cx : Nat} (hW : JW D0 nm [] (ds.map encD) (ds.map encD) g seg σ true n m t q c) (hna : D0.armed = false) (hL : cont L = (runD ds).1) (hall : allD ds) (hn : 700000 ≤ n) (hm : m ≤ 60000) (ht : t ≤ 3000000) (hc : c + 3 ≤ 256) (hdl : ds.length < 256) (hC : HdrOk C.head) (hw : wholeE C.head C.data = 0) (hf0 : mfind C.head.id (runD ds).1 = none) (hq : (usedL (runD ds).1 : Int) + ((C.data.length : Nat) : Int) ≤ quota) (H0 : Hp w S O ((vb, .cells #[.P jb 0, .P db 0, .map (some mb), .I quota, .I (usedL (runD ds).1 : Int), .I (ds.length : Int)] 119 (0, 0)) :: (mb, mapO cidV veV L ((runD ds).2)) :: (jb, .cells #[.P db 0, .string nm, .slice ab (([] : List (BitVec 8)).length) cb, .slice ar (ds.map encD).length cr, .I g, .string seg, .slice aσ σ.length cσ, .bool true] 41 (0, 0)) :: (diskM db D0 sa0 sk0)) [⟨SB, 23, .slice ar (ds.map encD).length cr, (ds.map encD)⟩, ⟨stepS, 143, .slice sa0 D0.steps.length sk0, D0.steps⟩] [Rp SB [.slice ab (([] : List (BitVec 8)).length) cb] ([] : List (BitVec 8)), Rp SB [.slice aσ σ.length cσ] σ, Fall L, Fz jQ, Rp SB [.slice ax C.data.length cx] C.data] w) :
 Calls Tryz.prog 39 #[.P vb 0, .agg #[.int .u64 C.head.id.version, .I C.head.id.index, .int .u64 C.head.id.epoch, .I C.head.kk, .I C.head.nn, .I C.head.size, .int .u32 ((C.head.sum.toNat : Nat) : Int), .slice ax C.data.length cx, .bool C.done_]] w (Ret fun v w' => v = .I 0 ∧ ∃ (D' : DiskD) (sa' : Option Addr) (sk' g' : Nat) (seg' : ByteArray) (σ' : List (BitVec 8)) (ar' : Option Addr) (cr' : Nat) (aσ' : Option Addr) (cσ' : Nat) (L' : VL), JW D' nm [] ((ds ++ [(Deed.prep ⟨C.head, C.data, false⟩)]).map encD) ((ds ++ [(Deed.prep ⟨C.head, C.data, false⟩)]).map encD) g' seg' σ' true (n - 600000) (m + 2) (t + (encD (Deed.prep ⟨C.head, C.data, false⟩)).length + 12) q (c + 2) ∧ D'.armed = false ∧ cont L' = (runD (ds ++ [(Deed.prep ⟨C.head, C.data, false⟩)])).1 ∧ Hp w S O ((vb, .cells #[.P jb 0, .P db 0, .map (some mb), .I quota, .I (usedL (runD (ds ++ [(Deed.prep ⟨C.head, C.data, false⟩)])).1 : Int), .I ((ds ++ [(Deed.prep ⟨C.head, C.data, false⟩)]).length : Int)] 119 (0, 0)) :: (mb, mapO cidV veV L' ((runD (ds ++ [(Deed.prep ⟨C.head, C.data, false⟩)])).2)) :: (jb, .cells #[.P db 0, .string nm, .slice ab (([] : List (BitVec 8)).length) cb, .slice ar' (((ds ++ [(Deed.prep ⟨C.head, C.data, false⟩)]).map encD).length) cr', .I g', .string seg', .slice aσ' σ'.length cσ', .bool true] 41 (0, 0)) :: diskM db D' sa' sk') [⟨SB, 23, .slice ar' (((ds ++ [(Deed.prep ⟨C.head, C.data, false⟩)]).map encD).length) cr', ((ds ++ [(Deed.prep ⟨C.head, C.data, false⟩)]).map encD)⟩, diskW D' sa' sk'] [Rp SB [.slice ab (([] : List (BitVec 8)).length) cb] ([] : List (BitVec 8)), Rp SB [.slice aσ' σ'.length cσ'] σ', Fall L'] w') := by
 obtain ⟨⟨_, _, _⟩, _, _, _⟩ := id hC
 have hf := cont_none (L := L) (by rw [hL]; exact hf0)
 obtain ⟨hsm, hus⟩ := allD_small hall
 have a := whole_len hw
 refine uS1 Tryz.func39 ?_
 have H := H0
 refine uR 1 [.c [0], .c [1]] ?_
 refine qG (sq 0 2) ?_
 refine uC #[.int .u64 C.head.id.version, .I C.head.id.index, .int .u64 C.head.id.epoch, .I C.head.kk, .I C.head.nn, .I C.head.size, .int .u32 ((C.head.sum.toNat : Nat) : Int), .slice ax C.data.length cx, .bool C.done_] 102 H ?_
 intro y _ H
 refine uF 1 ?_
 refine uR 2 [.c [1, 0, 0], .c [1, 0, 1], .c [2]] ?_
 refine qG (sq 0 3) ?_
 refine uP 1 ?_
 have H := H.frontM 3 rfl
 have H := H.frontM 3 rfl
 have H := H.frontM 3 rfl
 have H := H.frontW 1 rfl
 have H := H.frontW 1 rfl
 have H := H.gat 3 1
 refine uKS (vstate_spec (ds := ds) hW hna hL hall ((H.lend (M1 := (_ :: _ :: _ :: (diskM _ _ _ _))) (W1 := [_, _])).pick [0, 1, 2, 3] rfl)) ?_
 rintro _ _ ⟨rfl, H'⟩
 have H := H.back (M1 := (_ :: _ :: _ :: (diskM _ _ _ _))) (W1 := [_, _]) H'
 have H := H.ung 3
 have H : Hp w S O (_ :: _ :: _ :: _ :: _) [_, _] [_, _, _, _, _] _ := H
 refine uF 1 ?_
 refine uR 6 [.c [2, 0, 0], .c [2, 0, 1], .c [3]] ?_
 refine qG (sq 0 3) ?_
 refine uV 102 0 (H.cells 3 rfl) ?_
 refine qK .seq (some 15) (sq 2 3) 37 #[.agg #[.int .u64 C.head.id.version, .I C.head.id.index, .int .u64 C.head.id.epoch, .I C.head.kk, .I C.head.nn, .I C.head.size, .int .u32 ((C.head.sum.toNat : Nat) : Int), .slice ax C.data.length cx, .bool C.done_]] (whole_spec (C := C) (chk_mk (hdr_mk (cid_mk u64a i64a u64a) i64a i64a i64a Shape.bv_mk) (H.rp 4 rfl) Shape.bool_mk)) ?_
 rintro _ _ Y rfl
 have H := H.ext Y
 refine uF 1 ?_
 refine uR 2 [.c [2, 0, 2], .c [3]] ?_
 refine qN (wholeE C.head C.data) 0 (fun Z => ?_) (fun Z => ?_)
 ·
  exact absurd hw Z
 ·
  refine uR 3 [.c [3, 0, 0], .c [3, 0, 1], .c [4]] ?_
  refine WK.drawH1 [] (.leaf [(0, .qui), (1, .qui), (2, .qui), (3, .qui), (4, .qui), (5, .qui), (6, .qui), (7, .qui), (8, .qui), (9, .qui), (10, .qui), (11, .seq), (12, .seq), (13, .qui)]) Tryz_mixed (by as_aux_lemma => kernel_rfl) (by as_aux_lemma => kernel_rfl) ?_
  intro w8 K
  have H := H.draw
  rw [← K] at H
  clear K
  have hS := Chg.refl w8 []
  refine RG.leaf' [(0, .qui), (1, .qui), (2, .qui), (3, .qui), (4, .qui), (5, .qui), (6, .qui), (7, .qui), (8, .qui), (9, .qui), (10, .qui), (11, .seq), (12, .seq), (13, .qui)] (by as_aux_lemma => kernel_rfl) ?_
  refine uHP hS 3 ?_
  refine uHV 117 2 hS (H.cells 0 rfl) nq0 ?_
  refine uHP hS 2 ?_
  refine uHV 82 0 hS (H.cells 3 rfl) nq0 ?_
  refine RH.mapGetF (d := some 27) (r := [(8, .qui), (9, .qui), (10, .qui), (11, .seq), (12, .seq), (13, .qui)]) (T := 117) (mk := cidV) (vk := veV) (Kt := 82) (E := 102) (z := zVE) C.head.id true none (v := .tuple #[.agg #[.int .u64 0, .I 0, .int .u64 0, .I 0, .I 0, .I 0, .int .u32 (((0#32).toNat : Nat) : Int), .slice none 0 0, .bool false], .bool false]) (by as_aux_lemma => kernel_rfl) hS H 1 rfl (cid_key) (by as_aux_lemma => kernel_rfl) (fun w_ => zeroE_run (by as_aux_lemma => kernel_rfl) w_) (hf) rfl ?_
  refine uHP hS 3 ?_
  have Hr := H
  refine RH.chn hS ?_
  refine RW.newC (κ := .chn) (d := some 7) (r := []) (o := .cells #[.int .u64 0, .I 0, .int .u64 0, .I 0, .I 0, .I 0, .int .u32 0, .slice none 0 0, .bool false] 102 (0, 0)) (v := fun b => .P b 0) (fun b => by as_aux_lemma => kernel_rfl) (nofun) H ?_
  intro i _ A H
  have B := Nat.le_trans hS.size A
  intro hS
  refine RH.sto ?_
  refine qWC 102 i 0 [] (.agg #[.int .u64 0, .I 0, .int .u64 0, .I 0, .I 0, .I 0, .int .u32 (((0#32).toNat : Nat) : Int), .slice none 0 0, .bool false]) ((i, .cells #[.int .u64 0, .I 0, .int .u64 0, .I 0, .I 0, .I 0, .int .u32 (((0#32).toNat : Nat) : Int), .slice none 0 0, .bool false] 102 (0, 0)) :: (vb, .cells #[.P jb 0, .P db 0, .map (some mb), .I quota, .I (usedL (runD ds).1 : Int), .I (ds.length : Int)] 119 (0, 0)) :: (mb, mapO cidV veV L ((runD ds).2)) :: (jb, .cells #[.P db 0, .string nm, .slice ab (([] : List (BitVec 8)).length) cb, .slice ar (ds.map encD).length cr, .I g, .string seg, .slice aσ σ.length cσ, .bool true] 41 (0, 0)) :: (y, .cells #[.int .u64 C.head.id.version, .I C.head.id.index, .int .u64 C.head.id.epoch, .I C.head.kk, .I C.head.nn, .I C.head.size, .int .u32 ((C.head.sum.toNat : Nat) : Int), .slice ax C.data.length cx, .bool C.done_] 102 (0, 0)) :: (diskM db D0 sa0 sk0)) H 0 rfl rfl ?_
  intro M D H
  have j := hS.sto D (.inl B)
  refine ⟨j, ?_⟩
  have hS := j
  refine uHF hS 1 ?_
  refine uR 6 [.c [4, 0, 0], .c [4, 0, 1], .c [5]] ?_
  refine WK.draw1 13 (qs [0, 1, 2, 3, 4, 5, 6, 7, 8, 9, 10, 11, 12]) (qs [0, 1, 2, 3, 4, 5, 6, 7, 8, 9, 10, 11, 12]) Tryz_mixed (by as_aux_lemma => kernel_rfl) (by as_aux_lemma => kernel_rfl) (by as_aux_lemma => kernel_rfl) ?_
  have H := H.draw
  generalize ({ M with drawn := M.drawn + 1 } : World) = d0 at H ⊢
  refine uP 3 ?_
  refine uV 3 4 (H.cells 1 rfl) ?_
  refine uP 1 ?_
  refine uV 23 7 (H.cells 4 rfl) ?_
  refine qP 1 (qs [7, 8, 9, 10, 11, 12]) [(0, .P vb 0), (3, .P y 0), (46, .I (usedL (runD ds).1 : Int)), (49, .I ((C.data.length : Nat) : Int))] ?_
  refine uI ((usedL (runD ds).1 : Int) + ((C.data.length : Nat) : Int)) ?_
  refine uP 3 ?_
  refine uV 3 3 (H.cells 1 rfl) ?_
  refine uF 1 ?_
  refine qD (((usedL (runD ds).1 : Int) + ((C.data.length : Nat) : Int) : Int) > quota) (fun a0 => ?_) (fun a0 => ?_)
  ·
   omega
  ·
   refine uR 2 [.c [5, 0], .c [6]] ?_
   refine qG (sq 0 2) ?_
   refine uP 1 ?_
   refine qW 4 y 8 (sq 2 2) (.bool false) ((i, .cells #[.int .u64 0, .I 0, .int .u64 0, .I 0, .I 0, .I 0, .int .u32 (((0#32).toNat : Nat) : Int), .slice none 0 0, .bool false] 102 (0, 0)) :: (vb, .cells #[.P jb 0, .P db 0, .map (some mb), .I quota, .I (usedL (runD ds).1 : Int), .I (ds.length : Int)] 119 (0, 0)) :: (mb, mapO cidV veV L ((runD ds).2)) :: (jb, .cells #[.P db 0, .string nm, .slice ab (([] : List (BitVec 8)).length) cb, .slice ar (ds.map encD).length cr, .I g, .string seg, .slice aσ σ.length cσ, .bool true] 41 (0, 0)) :: (y, .cells #[.int .u64 C.head.id.version, .I C.head.id.index, .int .u64 C.head.id.epoch, .I C.head.kk, .I C.head.nn, .I C.head.size, .int .u32 ((C.head.sum.toNat : Nat) : Int), .slice ax C.data.length cx, .bool false] 102 (0, 0)) :: (diskM db D0 sa0 sk0)) H 4 rfl rfl ?_
   intro N H
   refine uF 0 ?_
   refine uR 1 [.c [6, 0], .c [7]] ?_
   refine WK.draw1 4 [(0, .qui), (2, .qui), (1, .chn), (3, .chn)] [(0, .qui), (2, .qui), (1, .chn), (3, .chn), (4, .seq), (5, .seq)] Tryz_mixed (by as_aux_lemma => kernel_rfl) (by as_aux_lemma => kernel_rfl) (by as_aux_lemma => kernel_rfl) ?_
   have H := H.draw
   generalize ({ N with drawn := N.drawn + 1 } : World) = e0 at H ⊢
   refine uP 1 ?_
   refine uV 102 0 (H.cells 4 rfl) ?_
   have H := H.add (F := Rp SB [.slice none 0 0] ([] : List (BitVec 8))) Shape.slice_nil
   refine uK (putnum_spec (xs := ([] : List (BitVec 8))) (H.rp 0 rfl) 0 (by omega) (by have := @num_ten 0 (by omega); simp only [List.length_append, List.length_nil]; omega)) ?_
   rintro _ _ - H'
   have H := H.back (M1 := []) (W1 := []) H'
   obtain ⟨Q, R, rfl, _, _⟩ := H.ownForm 0 rfl
   have H : Hp w S O (_ :: _ :: _ :: _ :: _ :: _) [⟨Sb, 5, .slice Q ((([] : List (BitVec 8)) ++ num 0).length) R, (([] : List (BitVec 8)) ++ num 0)⟩, _, _] [_, _, _, _, _, _] _ := H
   have H : Hp w S O (_ :: _ :: _ :: _ :: _ :: _) [_, _] [Rp SB [.slice Q ((([] : List (BitVec 8)) ++ num 0).length) R] (([] : List (BitVec 8)) ++ num 0), _, _, _, _, _, _] _ := H.freezeW 0 rfl
   refine uK (vput_spec (xs := (([] : List (BitVec 8)) ++ num 0)) (H.rp 0 rfl) (C := ⟨C.head, C.data, false⟩) ⟨hC, a⟩ (H.rp 6 rfl) (by have := @num_ten 0 (by omega); simp only [List.length_append, List.length_nil]; omega)) ?_
   rintro _ _ - H'
   have H := H.back (M1 := []) (W1 := []) H'
   obtain ⟨k, l, rfl, _, _⟩ := H.ownForm 0 rfl
   have H : Hp w S O (_ :: _ :: _ :: _ :: _ :: _) [⟨Sb, 5, .slice k (((([] : List (BitVec 8)) ++ num 0) ++ chkE (⟨C.head, C.data, false⟩)).length) l, ((([] : List (BitVec 8)) ++ num 0) ++ chkE (⟨C.head, C.data, false⟩))⟩, _, _] [_, _, _, _, _, _, _] _ := H
   have H : Hp w S O (_ :: _ :: _ :: _ :: _ :: _) [_, _] [Rp SB [.slice k (((([] : List (BitVec 8)) ++ num 0) ++ chkE (⟨C.head, C.data, false⟩)).length) l] ((([] : List (BitVec 8)) ++ num 0) ++ chkE (⟨C.head, C.data, false⟩)), _, _, _, _, _, _, _] _ := H.freezeW 0 rfl
   have U : ((([] : List (BitVec 8)) ++ num 0) ++ chkE (⟨C.head, C.data, false⟩)) = encD (Deed.prep ⟨C.head, C.data, false⟩) := rfl
   rw [U] at H
   rw [U]
   have H : Hp w S O (_ :: _ :: _ :: _ :: _ :: _) [_, _] [Rp SB [.slice k ((encD (Deed.prep ⟨C.head, C.data, false⟩)).length) l] (encD (Deed.prep ⟨C.head, C.data, false⟩)), _, _, _, _, _, _, _] _ := H
   have H := H.frontM 3 rfl
   have H := H.frontM 3 rfl
   have H := H.frontM 3 rfl
   have H := H.frontW 1 rfl
   have H := H.frontW 1 rfl
   have H := H.gat 3 2
   refine uKS (vsave_spec (ds := ds) (d := (Deed.prep ⟨C.head, C.data, false⟩)) hW hna hL hall (by omega) (by omega) (by omega) (by omega) (by omega) ⟨hf0, hC, a⟩ ((H.lend (M1 := (_ :: _ :: _ :: (diskM _ _ _ _))) (W1 := [_, _])).pick [3, 4, 5, 6, 0] rfl)) ?_
   rintro _ _ ⟨rfl, h, e, f, b0, G, σ39, p, s, u, x, V, W, J, X, H'⟩
   have c0 := allD_snoc hall (d := (Deed.prep ⟨C.head, C.data, false⟩)) ⟨hf0, hC, a⟩
   have H := H.back (M1 := (_ :: _ :: _ :: (diskM _ _ _ _))) (W1 := [_, _]) H'
   have H := H.ung 3
   have H : Hp w S O (_ :: (mb, mapO cidV veV V ((runD (ds ++ [(Deed.prep ⟨C.head, C.data, false⟩)])).2)) :: (jb, .cells #[.P db 0, .string nm, .slice ab (([] : List (BitVec 8)).length) cb, .slice p (((ds ++ [(Deed.prep ⟨C.head, C.data, false⟩)]).map encD).length) s, .I b0, .string G, .slice u σ39.length x, .bool true] 41 (0, 0)) :: _ :: _ :: (diskM db h e f)) [⟨SB, 23, .slice p (((ds ++ [(Deed.prep ⟨C.head, C.data, false⟩)]).map encD).length) s, ((ds ++ [(Deed.prep ⟨C.head, C.data, false⟩)]).map encD)⟩, ⟨stepS, 143, .slice e h.steps.length f, h.steps⟩] [_, Rp SB [.slice u σ39.length x] σ39, Fall V, _, _, _, _, _, _, _, _] _ := H
   refine uF 1 ?_
   refine qT (.I 0) Tryz.func39 ?_
   have H := H.pick [0, 1, 2] rfl
   have H := H.frontM 2 rfl
   have H := H.frontM 2 rfl
   have H := H.frontM 2 rfl
   have H := H.frontM 4 rfl
   have H := H.frontM 4 rfl
   have H := H.dropM 1
   have H := H.dropM 0
   exact ⟨_, rfl, rfl, h, e, f, _, _, _, _, _, _, _, _, W, J, X, H⟩
set_option maxHeartbeats 1000000 in
theorem vdrop_save {S : Nat → Prop} {w : World} {O : List Nat} {vb jb db mb g : Nat} {nm seg : ByteArray} {σ : List (BitVec 8)} {ab ar aσ : Option Addr} {cb cr cσ n m t q c : Nat} {quota : Int} {L : VL} {ds : List Deed} {D0 : DiskD} {sa0 : Option Addr} {sk0 : Nat} (hW : JW D0 nm [] (ds.map encD) (ds.map encD) g seg σ true n m t q c) (hna : D0.armed = false) (hL : cont L = (runD ds).1) (hall : allD ds) (hn : 700000 ≤ n) (hm : m ≤ 60000) (ht : t ≤ 3000000) (hc : c + 3 ≤ 256) (hdl : ds.length < 256) {D : CID} {C : Chk} (hD : CidOk D) (hf0 : mfind D (runD ds).1 = some C) (H0 : Hp w S O ((vb, .cells #[.P jb 0, .P db 0, .map (some mb), .I quota, .I (usedL (runD ds).1 : Int), .I (ds.length : Int)] 119 (0, 0)) :: (mb, mapO cidV veV L ((runD ds).2)) :: (jb, .cells #[.P db 0, .string nm, .slice ab (([] : List (BitVec 8)).length) cb, .slice ar (ds.map encD).length cr, .I g, .string seg, .slice aσ σ.length cσ, .bool true] 41 (0, 0)) :: (diskM db D0 sa0 sk0)) [⟨SB, 23, .slice ar (ds.map encD).length cr, (ds.map encD)⟩, ⟨stepS, 143, .slice sa0 D0.steps.length sk0, D0.steps⟩] [Rp SB [.slice ab (([] : List (BitVec 8)).length) cb] ([] : List (BitVec 8)), Rp SB [.slice aσ σ.length cσ] σ, Fall L, Fz jQ] w) :
 Calls Tryz.prog 43 #[.P vb 0, .agg #[.int .u64 D.version, .I D.index, .int .u64 D.epoch]] w (Ret fun v w' => v = .I 0 ∧ ∃ (D' : DiskD) (sa' : Option Addr) (sk' g' : Nat) (seg' : ByteArray) (σ' : List (BitVec 8)) (ar' : Option Addr) (cr' : Nat) (aσ' : Option Addr) (cσ' : Nat) (L' : VL), JW D' nm [] ((ds ++ [(Deed.drop D)]).map encD) ((ds ++ [(Deed.drop D)]).map encD) g' seg' σ' true (n - 600000) (m + 2) (t + (encD (Deed.drop D)).length + 12) q (c + 2) ∧ D'.armed = false ∧ cont L' = (runD (ds ++ [(Deed.drop D)])).1 ∧ Hp w S O ((vb, .cells #[.P jb 0, .P db 0, .map (some mb), .I quota, .I (usedL (runD (ds ++ [(Deed.drop D)])).1 : Int), .I ((ds ++ [(Deed.drop D)]).length : Int)] 119 (0, 0)) :: (mb, mapO cidV veV L' ((runD (ds ++ [(Deed.drop D)])).2)) :: (jb, .cells #[.P db 0, .string nm, .slice ab (([] : List (BitVec 8)).length) cb, .slice ar' (((ds ++ [(Deed.drop D)]).map encD).length) cr', .I g', .string seg', .slice aσ' σ'.length cσ', .bool true] 41 (0, 0)) :: diskM db D' sa' sk') [⟨SB, 23, .slice ar' (((ds ++ [(Deed.drop D)]).map encD).length) cr', ((ds ++ [(Deed.drop D)]).map encD)⟩, diskW D' sa' sk'] [Rp SB [.slice ab (([] : List (BitVec 8)).length) cb] ([] : List (BitVec 8)), Rp SB [.slice aσ' σ'.length cσ'] σ', Fall L'] w') := by
 obtain ⟨_, _, _⟩ := id hD
 obtain ⟨h, i, hf⟩ := cont_some (L := L) (by rw [hL]; exact hf0)
 refine uS1 Tryz.func43 ?_
 have H := H0
 refine uR 1 [.c [0], .c [1]] ?_
 refine qG (sq 0 2) ?_
 refine uC #[.int .u64 D.version, .I D.index, .int .u64 D.epoch] 82 H ?_
 intro M _ H
 refine uF 1 ?_
 refine uR 2 [.c [1, 0, 0], .c [1, 0, 1], .c [2]] ?_
 refine qG (sq 0 3) ?_
 refine uP 1 ?_
 have H := H.frontM 3 rfl
 have H := H.frontM 3 rfl
 have H := H.frontM 3 rfl
 have H := H.frontW 1 rfl
 have H := H.frontW 1 rfl
 have H := H.gat 3 1
 refine uKS (vstate_spec (ds := ds) hW hna hL hall ((H.lend (M1 := (_ :: _ :: _ :: (diskM _ _ _ _))) (W1 := [_, _])).pick [0, 1, 2, 3] rfl)) ?_
 rintro _ _ ⟨rfl, H'⟩
 have H := H.back (M1 := (_ :: _ :: _ :: (diskM _ _ _ _))) (W1 := [_, _]) H'
 have H := H.ung 3
 have H : Hp w S O (_ :: _ :: _ :: _ :: _) [_, _] [_, _, _, _] _ := H
 refine uF 1 ?_
 refine uR 6 [.c [2, 0, 0], .c [2, 0, 1], .c [3]] ?_
 refine WK.drawH1 [] (.leaf [(0, .qui), (1, .qui), (2, .qui), (3, .qui), (4, .qui), (5, .qui), (6, .qui), (7, .qui), (8, .qui), (9, .seq), (10, .seq), (11, .qui)]) Tryz_mixed (by as_aux_lemma => kernel_rfl) (by as_aux_lemma => kernel_rfl) ?_
 intro Y G
 have H := H.draw
 rw [← G] at H
 clear G
 have hS := Chg.refl Y []
 refine RG.leaf' [(0, .qui), (1, .qui), (2, .qui), (3, .qui), (4, .qui), (5, .qui), (6, .qui), (7, .qui), (8, .qui), (9, .seq), (10, .seq), (11, .qui)] (by as_aux_lemma => kernel_rfl) ?_
 refine uHP hS 3 ?_
 refine uHV 117 2 hS (H.cells 0 rfl) nq0 ?_
 refine uHV 82 0 hS (H.cells 3 rfl) nq0 ?_
 refine RH.mapGetF (d := some 19) (r := [(6, .qui), (7, .qui), (8, .qui), (9, .seq), (10, .seq), (11, .qui)]) (T := 117) (mk := cidV) (vk := veV) (Kt := 82) (E := 102) (z := zVE) D true (some ⟨C, h, i⟩) (v := .tuple #[.agg #[.int .u64 C.head.id.version, .I C.head.id.index, .int .u64 C.head.id.epoch, .I C.head.kk, .I C.head.nn, .I C.head.size, .int .u32 ((C.head.sum.toNat : Nat) : Int), .slice h C.data.length i, .bool C.done_], .bool true]) (by as_aux_lemma => kernel_rfl) hS H 1 rfl (cid_key) (by as_aux_lemma => kernel_rfl) (fun w_ => zeroE_run (by as_aux_lemma => kernel_rfl) w_) (hf) rfl ?_
 have H := H.add (F := Rp SB [.slice h C.data.length i] C.data) (Fall.at (H.fact 2 rfl) (hf))
 refine uHP hS 3 ?_
 have Hr := H
 refine RH.chn hS ?_
 refine RW.newC (κ := .chn) (d := some 6) (r := []) (o := .cells #[.int .u64 0, .I 0, .int .u64 0, .I 0, .I 0, .I 0, .int .u32 0, .slice none 0 0, .bool false] 102 (0, 0)) (v := fun b => .P b 0) (fun b => by as_aux_lemma => kernel_rfl) (nofun) H ?_
 intro N _ Q H
 have R := Nat.le_trans hS.size Q
 intro hS
 refine RH.sto ?_
 refine qWC 102 N 0 [] (.agg #[.int .u64 C.head.id.version, .I C.head.id.index, .int .u64 C.head.id.epoch, .I C.head.kk, .I C.head.nn, .I C.head.size, .int .u32 ((C.head.sum.toNat : Nat) : Int), .slice h C.data.length i, .bool C.done_]) ((N, .cells #[.int .u64 C.head.id.version, .I C.head.id.index, .int .u64 C.head.id.epoch, .I C.head.kk, .I C.head.nn, .I C.head.size, .int .u32 ((C.head.sum.toNat : Nat) : Int), .slice h C.data.length i, .bool C.done_] 102 (0, 0)) :: (vb, .cells #[.P jb 0, .P db 0, .map (some mb), .I quota, .I (usedL (runD ds).1 : Int), .I (ds.length : Int)] 119 (0, 0)) :: (mb, mapO cidV veV L ((runD ds).2)) :: (jb, .cells #[.P db 0, .string nm, .slice ab (([] : List (BitVec 8)).length) cb, .slice ar (ds.map encD).length cr, .I g, .string seg, .slice aσ σ.length cσ, .bool true] 41 (0, 0)) :: (M, .cells #[.int .u64 D.version, .I D.index, .int .u64 D.epoch] 82 (0, 0)) :: (diskM db D0 sa0 sk0)) H 0 rfl rfl ?_
 intro _ y H
 have j := hS.sto y (.inl R)
 refine ⟨j, ?_⟩
 have hS := j
 refine uHF hS 1 ?_
 refine uR 5 [.c [3, 0], .c [4]] ?_
 refine qG (sq 0 5) ?_
 refine qP 1 (sq 1 5) [(3, .P M 0), (24, .P vb 0)] ?_
 refine uV 82 0 (H.cells 4 rfl) ?_
 refine uK (vrecord_spec (S := Av S w O (idsOf ((N, .cells #[.int .u64 C.head.id.version, .I C.head.id.index, .int .u64 C.head.id.epoch, .I C.head.kk, .I C.head.nn, .I C.head.size, .int .u32 ((C.head.sum.toNat : Nat) : Int), .slice h C.data.length i, .bool C.done_] 102 (0, 0)) :: (vb, .cells #[.P jb 0, .P db 0, .map (some mb), .I quota, .I (usedL (runD ds).1 : Int), .I (ds.length : Int)] 119 (0, 0)) :: (mb, mapO cidV veV L ((runD ds).2)) :: (jb, .cells #[.P db 0, .string nm, .slice ab (([] : List (BitVec 8)).length) cb, .slice ar (ds.map encD).length cr, .I g, .string seg, .slice aσ σ.length cσ, .bool true] 41 (0, 0)) :: (M, .cells #[.int .u64 D.version, .I D.index, .int .u64 D.epoch] 82 (0, 0)) :: (diskM db D0 sa0 sk0)) [⟨SB, 23, .slice ar (ds.map encD).length cr, (ds.map encD)⟩, ⟨stepS, 143, .slice sa0 D0.steps.length sk0, D0.steps⟩])) (D := D) 2 (by omega) (by assumption)) ?_
 rintro _ _ - H'
 have H := H.back (M1 := []) (W1 := []) H'
 obtain ⟨k, l, rfl, _, _⟩ := H.ownForm 0 rfl
 have H : Hp w S O (_ :: _ :: _ :: _ :: _ :: _) [⟨Sb, 5, .slice k ((num 2 ++ hdrE (hdr0 D)).length) l, (num 2 ++ hdrE (hdr0 D))⟩, _, _] [_, _, _, _, _] _ := H
 have H : Hp w S O (_ :: _ :: _ :: _ :: _ :: _) [_, _] [Rp SB [.slice k ((num 2 ++ hdrE (hdr0 D)).length) l] (num 2 ++ hdrE (hdr0 D)), _, _, _, _, _] _ := H.freezeW 0 rfl
 have J : (num 2 ++ hdrE (hdr0 D)) = encD (Deed.drop D) := rfl
 rw [J] at H
 rw [J]
 have H : Hp w S O (_ :: _ :: _ :: _ :: _ :: _) [_, _] [Rp SB [.slice k ((encD (Deed.drop D)).length) l] (encD (Deed.drop D)), _, _, _, _, _] _ := H
 have H := H.frontM 3 rfl
 have H := H.frontM 3 rfl
 have H := H.frontM 3 rfl
 have H := H.frontW 1 rfl
 have H := H.frontW 1 rfl
 have H := H.gat 3 2
 refine uKS (vsave_spec (ds := ds) (d := (Deed.drop D)) hW hna hL hall (by omega) (by omega) (by omega) (by omega) (by omega) ⟨⟨_, hf0⟩, hD⟩ ((H.lend (M1 := (_ :: _ :: _ :: (diskM _ _ _ _))) (W1 := [_, _])).pick [2, 3, 4, 5, 0] rfl)) ?_
 rintro _ _ ⟨rfl, f, a, e, W, A, σ25, p, s, u, x, K, U, B, V, H'⟩
 have X := allD_snoc hall (d := (Deed.drop D)) ⟨⟨_, hf0⟩, hD⟩
 have H := H.back (M1 := (_ :: _ :: _ :: (diskM _ _ _ _))) (W1 := [_, _]) H'
 have H := H.ung 3
 have H : Hp w S O (_ :: (mb, mapO cidV veV K ((runD (ds ++ [(Deed.drop D)])).2)) :: (jb, .cells #[.P db 0, .string nm, .slice ab (([] : List (BitVec 8)).length) cb, .slice p (((ds ++ [(Deed.drop D)]).map encD).length) s, .I W, .string A, .slice u σ25.length x, .bool true] 41 (0, 0)) :: _ :: _ :: (diskM db f a e)) [⟨SB, 23, .slice p (((ds ++ [(Deed.drop D)]).map encD).length) s, ((ds ++ [(Deed.drop D)]).map encD)⟩, ⟨stepS, 143, .slice a f.steps.length e, f.steps⟩] [_, Rp SB [.slice u σ25.length x] σ25, Fall K, _, _, _, _, _, _] _ := H
 refine uF 1 ?_
 refine qT (.I 0) Tryz.func43 ?_
 have H := H.pick [0, 1, 2] rfl
 have H := H.frontM 2 rfl
 have H := H.frontM 2 rfl
 have H := H.frontM 2 rfl
 have H := H.frontM 4 rfl
 have H := H.frontM 4 rfl
 have H := H.dropM 1
 have H := H.dropM 0
 exact ⟨_, rfl, rfl, f, a, e, _, _, _, _, _, _, _, _, U, B, V, H⟩
set_option maxHeartbeats 1000000 in
theorem vrot_save {S : Nat → Prop} {w : World} {O : List Nat} {vb jb db mb g : Nat} {nm seg : ByteArray} {σ : List (BitVec 8)} {ab ar aσ : Option Addr} {cb cr cσ n m t q c : Nat} {quota : Int} {L : VL} {ds : List Deed} {D0 : DiskD} {sa0 : Option Addr} {sk0 : Nat} (hW : JW D0 nm [] (ds.map encD) (ds.map encD) g seg σ true n m t q c) (hna : D0.armed = false) (hL : cont L = (runD ds).1) (hall : allD ds) (hn : 700000 ≤ n) (hm : m ≤ 60000) (ht : t ≤ 3000000) (hc : c + 3 ≤ 256) (hdl : ds.length < 256) {D : CID} {C : Chk} (hD : CidOk D) (hf0 : mfind D (runD ds).1 = some C) {bit : Nat} (hb : bit / 8 < C.data.length) (hbl : C.data.length ≤ 65536) (H0 : Hp w S O ((vb, .cells #[.P jb 0, .P db 0, .map (some mb), .I quota, .I (usedL (runD ds).1 : Int), .I (ds.length : Int)] 119 (0, 0)) :: (mb, mapO cidV veV L ((runD ds).2)) :: (jb, .cells #[.P db 0, .string nm, .slice ab (([] : List (BitVec 8)).length) cb, .slice ar (ds.map encD).length cr, .I g, .string seg, .slice aσ σ.length cσ, .bool true] 41 (0, 0)) :: (diskM db D0 sa0 sk0)) [⟨SB, 23, .slice ar (ds.map encD).length cr, (ds.map encD)⟩, ⟨stepS, 143, .slice sa0 D0.steps.length sk0, D0.steps⟩] [Rp SB [.slice ab (([] : List (BitVec 8)).length) cb] ([] : List (BitVec 8)), Rp SB [.slice aσ σ.length cσ] σ, Fall L, Fz jQ] w) :
 Calls Tryz.prog 41 #[.P vb 0, .agg #[.int .u64 D.version, .I D.index, .int .u64 D.epoch], .I bit] w (Ret fun v w' => v = .I 0 ∧ ∃ (D' : DiskD) (sa' : Option Addr) (sk' g' : Nat) (seg' : ByteArray) (σ' : List (BitVec 8)) (ar' : Option Addr) (cr' : Nat) (aσ' : Option Addr) (cσ' : Nat) (L' : VL), JW D' nm [] ((ds ++ [(Deed.turn D bit)]).map encD) ((ds ++ [(Deed.turn D bit)]).map encD) g' seg' σ' true (n - 600000) (m + 2) (t + (encD (Deed.turn D bit)).length + 12) q (c + 2) ∧ D'.armed = false ∧ cont L' = (runD (ds ++ [(Deed.turn D bit)])).1 ∧ Hp w S O ((vb, .cells #[.P jb 0, .P db 0, .map (some mb), .I quota, .I (usedL (runD (ds ++ [(Deed.turn D bit)])).1 : Int), .I ((ds ++ [(Deed.turn D bit)]).length : Int)] 119 (0, 0)) :: (mb, mapO cidV veV L' ((runD (ds ++ [(Deed.turn D bit)])).2)) :: (jb, .cells #[.P db 0, .string nm, .slice ab (([] : List (BitVec 8)).length) cb, .slice ar' (((ds ++ [(Deed.turn D bit)]).map encD).length) cr', .I g', .string seg', .slice aσ' σ'.length cσ', .bool true] 41 (0, 0)) :: diskM db D' sa' sk') [⟨SB, 23, .slice ar' (((ds ++ [(Deed.turn D bit)]).map encD).length) cr', ((ds ++ [(Deed.turn D bit)]).map encD)⟩, diskW D' sa' sk'] [Rp SB [.slice ab (([] : List (BitVec 8)).length) cb] ([] : List (BitVec 8)), Rp SB [.slice aσ' σ'.length cσ'] σ', Fall L'] w') := by
 obtain ⟨_, _, _⟩ := id hD
 obtain ⟨h, i, hf⟩ := cont_some (L := L) (by rw [hL]; exact hf0)
 have c0 := @num_ten 3 (by omega)
 have d0 := hdrE_len (hdr0_ok hD)
 refine uS1 Tryz.func41 ?_
 have H := H0
 refine uR 1 [.c [0], .c [1]] ?_
 refine qG (sq 0 2) ?_
 refine uC #[.int .u64 D.version, .I D.index, .int .u64 D.epoch] 82 H ?_
 intro R _ H
 refine uF 1 ?_
 refine uR 2 [.c [1, 0, 0], .c [1, 0, 1], .c [2]] ?_
 refine qG (sq 0 3) ?_
 refine uP 1 ?_
 have H := H.frontM 3 rfl
 have H := H.frontM 3 rfl
 have H := H.frontM 3 rfl
 have H := H.frontW 1 rfl
 have H := H.frontW 1 rfl
 have H := H.gat 3 1
 refine uKS (vstate_spec (ds := ds) hW hna hL hall ((H.lend (M1 := (_ :: _ :: _ :: (diskM _ _ _ _))) (W1 := [_, _])).pick [0, 1, 2, 3] rfl)) ?_
 rintro _ _ ⟨rfl, H'⟩
 have H := H.back (M1 := (_ :: _ :: _ :: (diskM _ _ _ _))) (W1 := [_, _]) H'
 have H := H.ung 3
 have H : Hp w S O (_ :: _ :: _ :: _ :: _) [_, _] [_, _, _, _] _ := H
 refine uF 1 ?_
 refine uR 5 [.c [2, 0], .c [3]] ?_
 refine WK.drawH1 [] (.leaf [(0, .qui), (1, .qui), (2, .qui), (3, .qui), (4, .qui), (5, .qui), (6, .qui), (7, .qui), (8, .qui), (9, .seq), (10, .seq), (11, .qui)]) Tryz_mixed (by as_aux_lemma => kernel_rfl) (by as_aux_lemma => kernel_rfl) ?_
 intro w4 J
 have H := H.draw
 rw [← J] at H
 clear J
 have hS := Chg.refl w4 []
 refine RG.leaf' [(0, .qui), (1, .qui), (2, .qui), (3, .qui), (4, .qui), (5, .qui), (6, .qui), (7, .qui), (8, .qui), (9, .seq), (10, .seq), (11, .qui)] (by as_aux_lemma => kernel_rfl) ?_
 refine uHP hS 3 ?_
 refine uHV 117 2 hS (H.cells 0 rfl) nq0 ?_
 refine uHV 82 0 hS (H.cells 3 rfl) nq0 ?_
 refine RH.mapGetF (d := some 21) (r := [(6, .qui), (7, .qui), (8, .qui), (9, .seq), (10, .seq), (11, .qui)]) (T := 117) (mk := cidV) (vk := veV) (Kt := 82) (E := 102) (z := zVE) D true (some ⟨C, h, i⟩) (v := .tuple #[.agg #[.int .u64 C.head.id.version, .I C.head.id.index, .int .u64 C.head.id.epoch, .I C.head.kk, .I C.head.nn, .I C.head.size, .int .u32 ((C.head.sum.toNat : Nat) : Int), .slice h C.data.length i, .bool C.done_], .bool true]) (by as_aux_lemma => kernel_rfl) hS H 1 rfl (cid_key) (by as_aux_lemma => kernel_rfl) (fun w_ => zeroE_run (by as_aux_lemma => kernel_rfl) w_) (hf) rfl ?_
 have H := H.add (F := Rp SB [.slice h C.data.length i] C.data) (Fall.at (H.fact 2 rfl) (hf))
 refine uHP hS 3 ?_
 have Hr := H
 refine RH.chn hS ?_
 refine RW.newC (κ := .chn) (d := some 8) (r := []) (o := .cells #[.int .u64 0, .I 0, .int .u64 0, .I 0, .I 0, .I 0, .int .u32 0, .slice none 0 0, .bool false] 102 (0, 0)) (v := fun b => .P b 0) (fun b => by as_aux_lemma => kernel_rfl) (nofun) H ?_
 intro y _ U H
 have V := Nat.le_trans hS.size U
 intro hS
 refine RH.sto ?_
 refine qWC 102 y 0 [] (.agg #[.int .u64 C.head.id.version, .I C.head.id.index, .int .u64 C.head.id.epoch, .I C.head.kk, .I C.head.nn, .I C.head.size, .int .u32 ((C.head.sum.toNat : Nat) : Int), .slice h C.data.length i, .bool C.done_]) ((y, .cells #[.int .u64 C.head.id.version, .I C.head.id.index, .int .u64 C.head.id.epoch, .I C.head.kk, .I C.head.nn, .I C.head.size, .int .u32 ((C.head.sum.toNat : Nat) : Int), .slice h C.data.length i, .bool C.done_] 102 (0, 0)) :: (vb, .cells #[.P jb 0, .P db 0, .map (some mb), .I quota, .I (usedL (runD ds).1 : Int), .I (ds.length : Int)] 119 (0, 0)) :: (mb, mapO cidV veV L ((runD ds).2)) :: (jb, .cells #[.P db 0, .string nm, .slice ab (([] : List (BitVec 8)).length) cb, .slice ar (ds.map encD).length cr, .I g, .string seg, .slice aσ σ.length cσ, .bool true] 41 (0, 0)) :: (R, .cells #[.int .u64 D.version, .I D.index, .int .u64 D.epoch] 82 (0, 0)) :: (diskM db D0 sa0 sk0)) H 0 rfl rfl ?_
 intro _ A H
 have j := hS.sto A (.inl V)
 refine ⟨j, ?_⟩
 have hS := j
 refine uHF hS 1 ?_
 refine uR 6 [.c [3, 0, 0, 1, 1, 0], .c [3, 0, 0, 1, 1, 1], .b 0, .c [4]] ?_
 refine qG (sq 0 11) ?_
 refine qP 3 (sq 3 11) [(0, .P vb 0), (2, .I bit), (4, .P R 0), (8, .P y 0), (30, .bool (decide (((bit : Int) : Int) < 0)))] ?_
 refine uD 30 (((bit : Int) : Int) < 0) (fun Y => ?_) (fun Y => ?_)
 ·
  omega
 ·
  refine uP 1 ?_
  refine RW.pv (κ := .seq) (d := some 32) (r := (sq 5 11)) (v := .I (IntKind.i64.wrap ((bit : Int).tdiv 8))) (v' := .I ((bit : Int) / 8)) (by as_aux_lemma => kernel_rfl) (quo_i64 (by decide) (by omega)) ?_
  refine uP 1 ?_
  refine uV 23 7 (H.cells 0 rfl) ?_
  refine uF 4 ?_
  refine qD (((bit : Int) / 8 : Int) ≥ ((C.data.length : Nat) : Int)) (fun Z => ?_) (fun Z => ?_)
  ·
   omega
  ·
   refine uR 3 [.c [4, 0], .c [5]] ?_
   refine qG (sq 0 8) ?_
   refine uP 1 ?_
   refine uV 82 0 (H.cells 4 rfl) ?_
   refine uK (vrecord_spec (S := Av S w O (idsOf ((y, .cells #[.int .u64 C.head.id.version, .I C.head.id.index, .int .u64 C.head.id.epoch, .I C.head.kk, .I C.head.nn, .I C.head.size, .int .u32 ((C.head.sum.toNat : Nat) : Int), .slice h C.data.length i, .bool C.done_] 102 (0, 0)) :: (vb, .cells #[.P jb 0, .P db 0, .map (some mb), .I quota, .I (usedL (runD ds).1 : Int), .I (ds.length : Int)] 119 (0, 0)) :: (mb, mapO cidV veV L ((runD ds).2)) :: (jb, .cells #[.P db 0, .string nm, .slice ab (([] : List (BitVec 8)).length) cb, .slice ar (ds.map encD).length cr, .I g, .string seg, .slice aσ σ.length cσ, .bool true] 41 (0, 0)) :: (R, .cells #[.int .u64 D.version, .I D.index, .int .u64 D.epoch] 82 (0, 0)) :: (diskM db D0 sa0 sk0)) [⟨SB, 23, .slice ar (ds.map encD).length cr, (ds.map encD)⟩, ⟨stepS, 143, .slice sa0 D0.steps.length sk0, D0.steps⟩])) (D := D) 3 (by omega) (by assumption)) ?_
   rintro _ _ - H'
   have H := H.back (M1 := []) (W1 := []) H'
   obtain ⟨K, M, rfl, _, _⟩ := H.ownForm 0 rfl
   have H : Hp w S O (_ :: _ :: _ :: _ :: _ :: _) [⟨Sb, 5, .slice K ((num 3 ++ hdrE (hdr0 D)).length) M, (num 3 ++ hdrE (hdr0 D))⟩, _, _] [_, _, _, _, _] _ := H
   refine uP 1 ?_
   refine RW.pv (κ := .seq) (d := some 42) (r := (sq 5 8)) (v' := .int .u64 (bit : Int)) (v := .int .u64 (IntKind.u64.wrap ((bit : Int)))) (by as_aux_lemma => kernel_rfl) (wr_u64 (by omega)) ?_
   have H : Hp w S O (_ :: _ :: _ :: _ :: _ :: _) [_, _] [Rp SB [.slice K ((num 3 ++ hdrE (hdr0 D)).length) M] (num 3 ++ hdrE (hdr0 D)), _, _, _, _, _] _ := H.freezeW 0 rfl
   refine uK (putnum_spec (xs := (num 3 ++ hdrE (hdr0 D))) (H.rp 0 rfl) bit (by omega) (by first | omega | simp only [List.length_append, List.length_nil, List.length_cons]; omega)) ?_
   rintro _ _ - H'
   have H := H.back (M1 := []) (W1 := []) H'
   obtain ⟨k, l, rfl, _, _⟩ := H.ownForm 0 rfl
   have H : Hp w S O (_ :: _ :: _ :: _ :: _ :: _) [⟨Sb, 5, .slice k (((num 3 ++ hdrE (hdr0 D)) ++ num bit).length) l, ((num 3 ++ hdrE (hdr0 D)) ++ num bit)⟩, _, _] [_, _, _, _, _, _] _ := H
   have H : Hp w S O (_ :: _ :: _ :: _ :: _ :: _) [_, _] [Rp SB [.slice k (((num 3 ++ hdrE (hdr0 D)) ++ num bit).length) l] ((num 3 ++ hdrE (hdr0 D)) ++ num bit), _, _, _, _, _, _] _ := H.freezeW 0 rfl
   have N : ((num 3 ++ hdrE (hdr0 D)) ++ num bit) = encD (Deed.turn D bit) := List.append_assoc ..
   rw [N] at H
   rw [N]
   have H : Hp w S O (_ :: _ :: _ :: _ :: _ :: _) [_, _] [Rp SB [.slice k ((encD (Deed.turn D bit)).length) l] (encD (Deed.turn D bit)), _, _, _, _, _, _] _ := H
   have H := H.frontM 3 rfl
   have H := H.frontM 3 rfl
   have H := H.frontM 3 rfl
   have H := H.frontW 1 rfl
   have H := H.frontW 1 rfl
   have H := H.gat 3 2
   refine uKS (vsave_spec (ds := ds) (d := (Deed.turn D bit)) hW hna hL hall (by omega) (by omega) (by omega) (by omega) (by omega) ⟨⟨_, hf0, hb, hbl⟩, hD⟩ ((H.lend (M1 := (_ :: _ :: _ :: (diskM _ _ _ _))) (W1 := [_, _])).pick [3, 4, 5, 6, 0] rfl)) ?_
   rintro _ _ ⟨rfl, f, a, e, a0, B, σ33, p, s, u, x, Q, W, G, X, H'⟩
   have b0 := allD_snoc hall (d := (Deed.turn D bit)) ⟨⟨_, hf0, hb, hbl⟩, hD⟩
   have H := H.back (M1 := (_ :: _ :: _ :: (diskM _ _ _ _))) (W1 := [_, _]) H'
   have H := H.ung 3
   have H : Hp w S O (_ :: (mb, mapO cidV veV Q ((runD (ds ++ [(Deed.turn D bit)])).2)) :: (jb, .cells #[.P db 0, .string nm, .slice ab (([] : List (BitVec 8)).length) cb, .slice p (((ds ++ [(Deed.turn D bit)]).map encD).length) s, .I a0, .string B, .slice u σ33.length x, .bool true] 41 (0, 0)) :: _ :: _ :: (diskM db f a e)) [⟨SB, 23, .slice p (((ds ++ [(Deed.turn D bit)]).map encD).length) s, ((ds ++ [(Deed.turn D bit)]).map encD)⟩, ⟨stepS, 143, .slice a f.steps.length e, f.steps⟩] [_, Rp SB [.slice u σ33.length x] σ33, Fall Q, _, _, _, _, _, _, _] _ := H
   refine uF 1 ?_
   refine qT (.I 0) Tryz.func41 ?_
   have H := H.pick [0, 1, 2] rfl
   have H := H.frontM 2 rfl
   have H := H.frontM 2 rfl
   have H := H.frontM 2 rfl
   have H := H.frontM 4 rfl
   have H := H.frontM 4 rfl
   have H := H.dropM 1
   have H := H.dropM 0
   exact ⟨_, rfl, rfl, f, a, e, _, _, _, _, _, _, _, _, W, G, X, H⟩
theorem vget_rot {S : Nat → Prop} {w : World} {O : List Nat} {vb jb db mb g : Nat} {nm seg : ByteArray} {σ : List (BitVec 8)} {ab ar aσ : Option Addr} {cb cr cσ n m t q c : Nat} {quota : Int} {L : VL} {ds : List Deed} {D0 : DiskD} {sa0 : Option Addr} {sk0 : Nat} (hW : JW D0 nm [] (ds.map encD) (ds.map encD) g seg σ true n m t q c) (hna : D0.armed = false) (hL : cont L = (runD ds).1) (hall : allD ds) {D : CID} {C : Chk} (hD : CidOk D) (hf0 : mfind D (runD ds).1 = some C) (hw : wholeE C.head C.data ≠ 0) (H0 : Hp w S O ((vb, .cells #[.P jb 0, .P db 0, .map (some mb), .I quota, .I (usedL (runD ds).1 : Int), .I (ds.length : Int)] 119 (0, 0)) :: (mb, mapO cidV veV L ((runD ds).2)) :: (jb, .cells #[.P db 0, .string nm, .slice ab (([] : List (BitVec 8)).length) cb, .slice ar (ds.map encD).length cr, .I g, .string seg, .slice aσ σ.length cσ, .bool true] 41 (0, 0)) :: (diskM db D0 sa0 sk0)) [⟨SB, 23, .slice ar (ds.map encD).length cr, (ds.map encD)⟩, ⟨stepS, 143, .slice sa0 D0.steps.length sk0, D0.steps⟩] [Rp SB [.slice ab (([] : List (BitVec 8)).length) cb] ([] : List (BitVec 8)), Rp SB [.slice aσ σ.length cσ] σ, Fall L, Fz jQ] w) :
 Calls Tryz.prog 40 #[.P vb 0, .agg #[.int .u64 D.version, .I D.index, .int .u64 D.epoch]] w (Ret fun v w' => v = .tuple #[.agg #[.int .u64 0, .I 0, .int .u64 0, .I 0, .I 0, .I 0, .int .u32 (((0#32).toNat : Nat) : Int), .slice none 0 0, .bool false], .I 92] ∧ Hp w S O ((vb, .cells #[.P jb 0, .P db 0, .map (some mb), .I quota, .I (usedL (runD ds).1 : Int), .I (ds.length : Int)] 119 (0, 0)) :: (mb, mapO cidV veV L ((runD ds).2)) :: (jb, .cells #[.P db 0, .string nm, .slice ab (([] : List (BitVec 8)).length) cb, .slice ar (ds.map encD).length cr, .I g, .string seg, .slice aσ σ.length cσ, .bool true] 41 (0, 0)) :: (diskM db D0 sa0 sk0)) [⟨SB, 23, .slice ar (ds.map encD).length cr, (ds.map encD)⟩, ⟨stepS, 143, .slice sa0 D0.steps.length sk0, D0.steps⟩] [] w') := by
 obtain ⟨_, _, _⟩ := id hD
 obtain ⟨a, e, hf⟩ := cont_some (L := L) (by rw [hL]; exact hf0)
 obtain ⟨hsm, hus⟩ := allD_small hall
 have hCo := hsm.find hf0
 obtain ⟨⟨⟨_, _, _⟩, _, _, _⟩, _⟩ := id hCo
 refine uS1 Tryz.func40 ?_
 have H := H0
 refine uR 1 [.c [0], .c [1]] ?_
 refine qG (sq 0 3) ?_
 refine uC #[.int .u64 D.version, .I D.index, .int .u64 D.epoch] 82 H ?_
 intro x _ H
 refine uC #[.int .u64 0, .I 0, .int .u64 0, .I 0, .I 0, .I 0, .int .u32 0, .slice none 0 0, .bool false] 102 H ?_
 intro l _ H
 refine uF 1 ?_
 refine uR 2 [.c [1, 0, 0], .c [1, 0, 1], .c [2]] ?_
 refine qG (sq 0 3) ?_
 refine uP 1 ?_
 have H := H.frontM 4 rfl
 have H := H.frontM 4 rfl
 have H := H.frontM 4 rfl
 have H := H.frontW 1 rfl
 have H := H.frontW 1 rfl
 have H := H.gat 3 2
 refine uKS (vstate_spec (ds := ds) hW hna hL hall ((H.lend (M1 := (_ :: _ :: _ :: (diskM _ _ _ _))) (W1 := [_, _])).pick [0, 1, 2, 3] rfl)) ?_
 rintro _ _ ⟨rfl, H'⟩
 have H := H.back (M1 := (_ :: _ :: _ :: (diskM _ _ _ _))) (W1 := [_, _]) H'
 have H := H.ung 3
 have H : Hp w S O (_ :: _ :: _ :: _ :: _ :: _) [_, _] [_, _, _, _] _ := H
 refine uF 1 ?_
 refine uR 5 [.c [2, 0], .c [3]] ?_
 refine WK.drawH1 [] (.leaf [(0, .qui), (1, .qui), (2, .qui), (3, .qui), (4, .qui), (5, .qui), (6, .qui), (7, .qui), (8, .qui), (9, .seq), (10, .seq), (11, .qui)]) Tryz_mixed (by as_aux_lemma => kernel_rfl) (by as_aux_lemma => kernel_rfl) ?_
 intro y j
 have H := H.draw
 rw [← j] at H
 clear j
 have hS := Chg.refl y []
 refine RG.leaf' [(0, .qui), (1, .qui), (2, .qui), (3, .qui), (4, .qui), (5, .qui), (6, .qui), (7, .qui), (8, .qui), (9, .seq), (10, .seq), (11, .qui)] (by as_aux_lemma => kernel_rfl) ?_
 refine uHP hS 3 ?_
 refine uHV 117 2 hS (H.cells 0 rfl) nq0 ?_
 refine uHV 82 0 hS (H.cells 4 rfl) nq0 ?_
 refine RH.mapGetF (d := some 21) (r := [(6, .qui), (7, .qui), (8, .qui), (9, .seq), (10, .seq), (11, .qui)]) (T := 117) (mk := cidV) (vk := veV) (Kt := 82) (E := 102) (z := zVE) D true (some ⟨C, a, e⟩) (v := .tuple #[.agg #[.int .u64 C.head.id.version, .I C.head.id.index, .int .u64 C.head.id.epoch, .I C.head.kk, .I C.head.nn, .I C.head.size, .int .u32 ((C.head.sum.toNat : Nat) : Int), .slice a C.data.length e, .bool C.done_], .bool true]) (by as_aux_lemma => kernel_rfl) hS H 1 rfl (cid_key) (by as_aux_lemma => kernel_rfl) (fun w_ => zeroE_run (by as_aux_lemma => kernel_rfl) w_) (hf) rfl ?_
 have H := H.add (F := Rp SB [.slice a C.data.length e] C.data) (Fall.at (H.fact 2 rfl) (hf))
 refine uHP hS 3 ?_
 have Hr := H
 refine RH.chn hS ?_
 refine RW.newC (κ := .chn) (d := some 7) (r := []) (o := .cells #[.int .u64 0, .I 0, .int .u64 0, .I 0, .I 0, .I 0, .int .u32 0, .slice none 0 0, .bool false] 102 (0, 0)) (v := fun b => .P b 0) (fun b => by as_aux_lemma => kernel_rfl) (nofun) H ?_
 intro p _ s H
 have h := Nat.le_trans hS.size s
 intro hS
 refine RH.sto ?_
 refine qWC 102 p 0 [] (.agg #[.int .u64 C.head.id.version, .I C.head.id.index, .int .u64 C.head.id.epoch, .I C.head.kk, .I C.head.nn, .I C.head.size, .int .u32 ((C.head.sum.toNat : Nat) : Int), .slice a C.data.length e, .bool C.done_]) ((p, .cells #[.int .u64 C.head.id.version, .I C.head.id.index, .int .u64 C.head.id.epoch, .I C.head.kk, .I C.head.nn, .I C.head.size, .int .u32 ((C.head.sum.toNat : Nat) : Int), .slice a C.data.length e, .bool C.done_] 102 (0, 0)) :: (vb, .cells #[.P jb 0, .P db 0, .map (some mb), .I quota, .I (usedL (runD ds).1 : Int), .I (ds.length : Int)] 119 (0, 0)) :: (mb, mapO cidV veV L ((runD ds).2)) :: (jb, .cells #[.P db 0, .string nm, .slice ab (([] : List (BitVec 8)).length) cb, .slice ar (ds.map encD).length cr, .I g, .string seg, .slice aσ σ.length cσ, .bool true] 41 (0, 0)) :: (l, .cells #[.int .u64 0, .I 0, .int .u64 0, .I 0, .I 0, .I 0, .int .u32 0, .slice none 0 0, .bool false] 102 (0, 0)) :: (x, .cells #[.int .u64 D.version, .I D.index, .int .u64 D.epoch] 82 (0, 0)) :: (diskM db D0 sa0 sk0)) H 0 rfl rfl ?_
 intro _ i H
 have f := hS.sto i (.inl h)
 refine ⟨f, ?_⟩
 have hS := f
 refine uHF hS 1 ?_
 refine uR 6 [.c [3, 0, 0, 1, 1, 0], .c [3, 0, 0, 1, 1, 1], .b 0, .c [4]] ?_
 refine qG (sq 0 4) ?_
 refine uV 102 0 (H.cells 0 rfl) ?_
 refine qK .seq (some 30) (sq 2 4) 37 #[.agg #[.int .u64 C.head.id.version, .I C.head.id.index, .int .u64 C.head.id.epoch, .I C.head.kk, .I C.head.nn, .I C.head.size, .int .u32 ((C.head.sum.toNat : Nat) : Int), .slice a C.data.length e, .bool C.done_]] (whole_spec (C := C) (chk_mk (hdr_mk (cid_mk u64a i64a u64a) i64a i64a i64a Shape.bv_mk) (H.rp 0 rfl) Shape.bool_mk)) ?_
 rintro _ _ u rfl
 have H := H.ext u
 refine uF 2 ?_
 refine qN (wholeE C.head C.data) 0 (fun k => ?_) (fun k => ?_)
 ·
  refine uR 1 [.c [3, 0, 0, 1, 1, 1, 0, 0], .c [3, 0, 0, 1, 1, 1, 0, 1], .b 0, .c [4]] ?_
  refine qG (sq 0 3) ?_
  refine uP 1 ?_
  refine qW 102 l 0 (sq 2 3) (.agg #[.int .u64 0, .I 0, .int .u64 0, .I 0, .I 0, .I 0, .int .u32 0, .slice none 0 0, .bool false]) ((p, .cells #[.int .u64 C.head.id.version, .I C.head.id.index, .int .u64 C.head.id.epoch, .I C.head.kk, .I C.head.nn, .I C.head.size, .int .u32 ((C.head.sum.toNat : Nat) : Int), .slice a C.data.length e, .bool C.done_] 102 (0, 0)) :: (vb, .cells #[.P jb 0, .P db 0, .map (some mb), .I quota, .I (usedL (runD ds).1 : Int), .I (ds.length : Int)] 119 (0, 0)) :: (mb, mapO cidV veV L ((runD ds).2)) :: (jb, .cells #[.P db 0, .string nm, .slice ab (([] : List (BitVec 8)).length) cb, .slice ar (ds.map encD).length cr, .I g, .string seg, .slice aσ σ.length cσ, .bool true] 41 (0, 0)) :: (l, .cells #[.int .u64 0, .I 0, .int .u64 0, .I 0, .I 0, .I 0, .int .u32 0, .slice none 0 0, .bool false] 102 (0, 0)) :: (x, .cells #[.int .u64 D.version, .I D.index, .int .u64 D.epoch] 82 (0, 0)) :: (diskM db D0 sa0 sk0)) H 4 rfl rfl ?_
  intro _ H
  refine uF 1 ?_
  refine qRB (.tuple #[.agg #[.int .u64 0, .I 0, .int .u64 0, .I 0, .I 0, .I 0, .int .u32 0, .slice none 0 0, .bool false], .I 92]) Tryz.func40 (v2 (.cell 4 102) (.tmp 5) (vC (H.cells 4 rfl)) vT) ?_
  have H := H.pick [] rfl
  have H := H.frontM 3 rfl
  have H := H.frontM 3 rfl
  have H := H.frontM 3 rfl
  have H := H.frontM 5 rfl
  have H := H.frontM 5 rfl
  have H := H.frontM 5 rfl
  have H := H.dropM 2
  have H := H.dropM 1
  have H := H.dropM 0
  exact ⟨_, rfl, rfl, H⟩
 ·
  exact absurd k hw
theorem vget_ok {S : Nat → Prop} {w : World} {O : List Nat} {vb jb db mb g : Nat} {nm seg : ByteArray} {σ : List (BitVec 8)} {ab ar aσ : Option Addr} {cb cr cσ n m t q c : Nat} {quota : Int} {L : VL} {ds : List Deed} {D0 : DiskD} {sa0 : Option Addr} {sk0 : Nat} (hW : JW D0 nm [] (ds.map encD) (ds.map encD) g seg σ true n m t q c) (hna : D0.armed = false) (hL : cont L = (runD ds).1) (hall : allD ds) {D : CID} {C : Chk} (hD : CidOk D) (hf0 : mfind D (runD ds).1 = some C) (hw : wholeE C.head C.data = 0) (H0 : Hp w S O ((vb, .cells #[.P jb 0, .P db 0, .map (some mb), .I quota, .I (usedL (runD ds).1 : Int), .I (ds.length : Int)] 119 (0, 0)) :: (mb, mapO cidV veV L ((runD ds).2)) :: (jb, .cells #[.P db 0, .string nm, .slice ab (([] : List (BitVec 8)).length) cb, .slice ar (ds.map encD).length cr, .I g, .string seg, .slice aσ σ.length cσ, .bool true] 41 (0, 0)) :: (diskM db D0 sa0 sk0)) [⟨SB, 23, .slice ar (ds.map encD).length cr, (ds.map encD)⟩, ⟨stepS, 143, .slice sa0 D0.steps.length sk0, D0.steps⟩] [Rp SB [.slice ab (([] : List (BitVec 8)).length) cb] ([] : List (BitVec 8)), Rp SB [.slice aσ σ.length cσ] σ, Fall L, Fz jQ] w) :
 Calls Tryz.prog 40 #[.P vb 0, .agg #[.int .u64 D.version, .I D.index, .int .u64 D.epoch]] w (Ret fun v w' => ∃ (a' : Option Addr) (c' : Nat), v = .tuple #[.agg #[.int .u64 C.head.id.version, .I C.head.id.index, .int .u64 C.head.id.epoch, .I C.head.kk, .I C.head.nn, .I C.head.size, .int .u32 ((C.head.sum.toNat : Nat) : Int), .slice a' C.data.length c', .bool C.done_], .I 0] ∧ Hp w S O ((vb, .cells #[.P jb 0, .P db 0, .map (some mb), .I quota, .I (usedL (runD ds).1 : Int), .I (ds.length : Int)] 119 (0, 0)) :: (mb, mapO cidV veV L ((runD ds).2)) :: (jb, .cells #[.P db 0, .string nm, .slice ab (([] : List (BitVec 8)).length) cb, .slice ar (ds.map encD).length cr, .I g, .string seg, .slice aσ σ.length cσ, .bool true] 41 (0, 0)) :: (diskM db D0 sa0 sk0)) [⟨Sb, 5, .slice a' C.data.length c', C.data⟩, ⟨SB, 23, .slice ar (ds.map encD).length cr, (ds.map encD)⟩, ⟨stepS, 143, .slice sa0 D0.steps.length sk0, D0.steps⟩] [] w') := by
 obtain ⟨_, _, _⟩ := id hD
 obtain ⟨f, h, hf⟩ := cont_some (L := L) (by rw [hL]; exact hf0)
 obtain ⟨hsm, hus⟩ := allD_small hall
 have hCo := hsm.find hf0
 obtain ⟨⟨⟨_, _, _⟩, _, _, _⟩, _⟩ := id hCo
 refine uS1 Tryz.func40 ?_
 have H := H0
 refine uR 1 [.c [0], .c [1]] ?_
 refine qG (sq 0 3) ?_
 refine uC #[.int .u64 D.version, .I D.index, .int .u64 D.epoch] 82 H ?_
 intro x _ H
 refine uC #[.int .u64 0, .I 0, .int .u64 0, .I 0, .I 0, .I 0, .int .u32 0, .slice none 0 0, .bool false] 102 H ?_
 intro k _ H
 refine uF 1 ?_
 refine uR 2 [.c [1, 0, 0], .c [1, 0, 1], .c [2]] ?_
 refine qG (sq 0 3) ?_
 refine uP 1 ?_
 have H := H.frontM 4 rfl
 have H := H.frontM 4 rfl
 have H := H.frontM 4 rfl
 have H := H.frontW 1 rfl
 have H := H.frontW 1 rfl
 have H := H.gat 3 2
 refine uKS (vstate_spec (ds := ds) hW hna hL hall ((H.lend (M1 := (_ :: _ :: _ :: (diskM _ _ _ _))) (W1 := [_, _])).pick [0, 1, 2, 3] rfl)) ?_
 rintro _ _ ⟨rfl, H'⟩
 have H := H.back (M1 := (_ :: _ :: _ :: (diskM _ _ _ _))) (W1 := [_, _]) H'
 have H := H.ung 3
 have H : Hp w S O (_ :: _ :: _ :: _ :: _ :: _) [_, _] [_, _, _, _] _ := H
 refine uF 1 ?_
 refine uR 5 [.c [2, 0], .c [3]] ?_
 refine WK.drawH1 [] (.leaf [(0, .qui), (1, .qui), (2, .qui), (3, .qui), (4, .qui), (5, .qui), (6, .qui), (7, .qui), (8, .qui), (9, .seq), (10, .seq), (11, .qui)]) Tryz_mixed (by as_aux_lemma => kernel_rfl) (by as_aux_lemma => kernel_rfl) ?_
 intro B s
 have H := H.draw
 rw [← s] at H
 clear s
 have hS := Chg.refl B []
 refine RG.leaf' [(0, .qui), (1, .qui), (2, .qui), (3, .qui), (4, .qui), (5, .qui), (6, .qui), (7, .qui), (8, .qui), (9, .seq), (10, .seq), (11, .qui)] (by as_aux_lemma => kernel_rfl) ?_
 refine uHP hS 3 ?_
 refine uHV 117 2 hS (H.cells 0 rfl) nq0 ?_
 refine uHV 82 0 hS (H.cells 4 rfl) nq0 ?_
 refine RH.mapGetF (d := some 21) (r := [(6, .qui), (7, .qui), (8, .qui), (9, .seq), (10, .seq), (11, .qui)]) (T := 117) (mk := cidV) (vk := veV) (Kt := 82) (E := 102) (z := zVE) D true (some ⟨C, f, h⟩) (v := .tuple #[.agg #[.int .u64 C.head.id.version, .I C.head.id.index, .int .u64 C.head.id.epoch, .I C.head.kk, .I C.head.nn, .I C.head.size, .int .u32 ((C.head.sum.toNat : Nat) : Int), .slice f C.data.length h, .bool C.done_], .bool true]) (by as_aux_lemma => kernel_rfl) hS H 1 rfl (cid_key) (by as_aux_lemma => kernel_rfl) (fun w_ => zeroE_run (by as_aux_lemma => kernel_rfl) w_) (hf) rfl ?_
 have H := H.add (F := Rp SB [.slice f C.data.length h] C.data) (Fall.at (H.fact 2 rfl) (hf))
 refine uHP hS 3 ?_
 have Hr := H
 refine RH.chn hS ?_
 refine RW.newC (κ := .chn) (d := some 7) (r := []) (o := .cells #[.int .u64 0, .I 0, .int .u64 0, .I 0, .I 0, .I 0, .int .u32 0, .slice none 0 0, .bool false] 102 (0, 0)) (v := fun b => .P b 0) (fun b => by as_aux_lemma => kernel_rfl) (nofun) H ?_
 intro i _ y H
 have l := Nat.le_trans hS.size y
 intro hS
 refine RH.sto ?_
 refine qWC 102 i 0 [] (.agg #[.int .u64 C.head.id.version, .I C.head.id.index, .int .u64 C.head.id.epoch, .I C.head.kk, .I C.head.nn, .I C.head.size, .int .u32 ((C.head.sum.toNat : Nat) : Int), .slice f C.data.length h, .bool C.done_]) ((i, .cells #[.int .u64 C.head.id.version, .I C.head.id.index, .int .u64 C.head.id.epoch, .I C.head.kk, .I C.head.nn, .I C.head.size, .int .u32 ((C.head.sum.toNat : Nat) : Int), .slice f C.data.length h, .bool C.done_] 102 (0, 0)) :: (vb, .cells #[.P jb 0, .P db 0, .map (some mb), .I quota, .I (usedL (runD ds).1 : Int), .I (ds.length : Int)] 119 (0, 0)) :: (mb, mapO cidV veV L ((runD ds).2)) :: (jb, .cells #[.P db 0, .string nm, .slice ab (([] : List (BitVec 8)).length) cb, .slice ar (ds.map encD).length cr, .I g, .string seg, .slice aσ σ.length cσ, .bool true] 41 (0, 0)) :: (k, .cells #[.int .u64 0, .I 0, .int .u64 0, .I 0, .I 0, .I 0, .int .u32 0, .slice none 0 0, .bool false] 102 (0, 0)) :: (x, .cells #[.int .u64 D.version, .I D.index, .int .u64 D.epoch] 82 (0, 0)) :: (diskM db D0 sa0 sk0)) H 0 rfl rfl ?_
 intro _ p H
 have j := hS.sto p (.inl l)
 refine ⟨j, ?_⟩
 have hS := j
 refine uHF hS 1 ?_
 refine uR 6 [.c [3, 0, 0, 1, 1, 0], .c [3, 0, 0, 1, 1, 1], .b 0, .c [4]] ?_
 refine qG (sq 0 4) ?_
 refine uV 102 0 (H.cells 0 rfl) ?_
 refine qK .seq (some 30) (sq 2 4) 37 #[.agg #[.int .u64 C.head.id.version, .I C.head.id.index, .int .u64 C.head.id.epoch, .I C.head.kk, .I C.head.nn, .I C.head.size, .int .u32 ((C.head.sum.toNat : Nat) : Int), .slice f C.data.length h, .bool C.done_]] (whole_spec (C := C) (chk_mk (hdr_mk (cid_mk u64a i64a u64a) i64a i64a i64a Shape.bv_mk) (H.rp 0 rfl) Shape.bool_mk)) ?_
 rintro _ _ A rfl
 have H := H.ext A
 refine uF 2 ?_
 refine qN (wholeE C.head C.data) 0 (fun u => ?_) (fun u => ?_)
 ·
  exact absurd hw u
 ·
  refine uR 3 [.c [4, 0], .c [5]] ?_
  refine qG (sq 0 5) ?_
  refine uP 1 ?_
  refine uV 23 7 (H.cells 0 rfl) ?_
  refine uK (clone_spec (H.rp 0 rfl) (by omega)) ?_
  rintro _ _ - H'
  have H := H.back (M1 := []) (W1 := []) H'
  obtain ⟨a, e, rfl, _, _⟩ := H.ownForm 0 rfl
  have H : Hp w S O (_ :: _ :: _ :: _ :: _ :: _ :: _) [⟨Sb, 5, .slice a C.data.length e, C.data⟩, _, _] [_, _, _, _, _] _ := H
  refine uP 1 ?_
  refine qW 23 i 7 (sq 5 5) (.slice a C.data.length e) ((i, .cells #[.int .u64 C.head.id.version, .I C.head.id.index, .int .u64 C.head.id.epoch, .I C.head.kk, .I C.head.nn, .I C.head.size, .int .u32 ((C.head.sum.toNat : Nat) : Int), .slice a C.data.length e, .bool C.done_] 102 (0, 0)) :: (vb, .cells #[.P jb 0, .P db 0, .map (some mb), .I quota, .I (usedL (runD ds).1 : Int), .I (ds.length : Int)] 119 (0, 0)) :: (mb, mapO cidV veV L ((runD ds).2)) :: (jb, .cells #[.P db 0, .string nm, .slice ab (([] : List (BitVec 8)).length) cb, .slice ar (ds.map encD).length cr, .I g, .string seg, .slice aσ σ.length cσ, .bool true] 41 (0, 0)) :: (k, .cells #[.int .u64 0, .I 0, .int .u64 0, .I 0, .I 0, .I 0, .int .u32 0, .slice none 0 0, .bool false] 102 (0, 0)) :: (x, .cells #[.int .u64 D.version, .I D.index, .int .u64 D.epoch] 82 (0, 0)) :: (diskM db D0 sa0 sk0)) H 0 rfl rfl ?_
  intro _ H
  refine uF 0 ?_
  refine uR 1 [.c [5, 0], .c [6]] ?_
  refine qG (sq 0 3) ?_
  refine uV 102 0 (H.cells 0 rfl) ?_
  refine qW 102 k 0 (sq 2 3) (.agg #[.int .u64 C.head.id.version, .I C.head.id.index, .int .u64 C.head.id.epoch, .I C.head.kk, .I C.head.nn, .I C.head.size, .int .u32 ((C.head.sum.toNat : Nat) : Int), .slice a C.data.length e, .bool C.done_]) ((i, .cells #[.int .u64 C.head.id.version, .I C.head.id.index, .int .u64 C.head.id.epoch, .I C.head.kk, .I C.head.nn, .I C.head.size, .int .u32 ((C.head.sum.toNat : Nat) : Int), .slice a C.data.length e, .bool C.done_] 102 (0, 0)) :: (vb, .cells #[.P jb 0, .P db 0, .map (some mb), .I quota, .I (usedL (runD ds).1 : Int), .I (ds.length : Int)] 119 (0, 0)) :: (mb, mapO cidV veV L ((runD ds).2)) :: (jb, .cells #[.P db 0, .string nm, .slice ab (([] : List (BitVec 8)).length) cb, .slice ar (ds.map encD).length cr, .I g, .string seg, .slice aσ σ.length cσ, .bool true] 41 (0, 0)) :: (k, .cells #[.int .u64 C.head.id.version, .I C.head.id.index, .int .u64 C.head.id.epoch, .I C.head.kk, .I C.head.nn, .I C.head.size, .int .u32 ((C.head.sum.toNat : Nat) : Int), .slice a C.data.length e, .bool C.done_] 102 (0, 0)) :: (x, .cells #[.int .u64 D.version, .I D.index, .int .u64 D.epoch] 82 (0, 0)) :: (diskM db D0 sa0 sk0)) H 4 rfl rfl ?_
  intro _ H
  refine uF 1 ?_
  refine qRB (.tuple #[.agg #[.int .u64 C.head.id.version, .I C.head.id.index, .int .u64 C.head.id.epoch, .I C.head.kk, .I C.head.nn, .I C.head.size, .int .u32 ((C.head.sum.toNat : Nat) : Int), .slice a C.data.length e, .bool C.done_], .I 0]) Tryz.func40 (v2 (.cell 4 102) (.tmp 5) (vC (H.cells 4 rfl)) vT) ?_
  have H := H.pick [] rfl
  have H := H.frontM 3 rfl
  have H := H.frontM 3 rfl
  have H := H.frontM 3 rfl
  have H := H.frontM 5 rfl
  have H := H.frontM 5 rfl
  have H := H.frontM 5 rfl
  have H := H.dropM 2
  have H := H.dropM 1
  have H := H.dropM 0
  exact ⟨_, rfl, _, _, rfl, H⟩
end Go.Proofs.YtdnibpclkhenmaaGreatDoor
