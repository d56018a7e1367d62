import Derived.Test.YtdnibpclkhenmaaGreatDoorSBxA
import Derived.Laws.StructEq
import Derived.Defers
import Derived.Recover
import Derived.Laws.IdiomRangeMap
import Derived.MapKept
import Derived.LaidEqlPtr
import Derived.Laws.Externs
import Derived.Shelf.GgSortFunc.InsertionK
import Derived.ProofKit
import Derived.Deep.Slices
/-
  THE ENGINE: a judgement on a frame whose slots are known by a list, over any program; laws for each operation.
  No condition.
-/
/-
 THE ENGINE: the most used steps, with what the slots hold left as it is computed.
 No condition.
-/
namespace Go.BX
def eM (P : Program) (n m : Nat) (k : List Item) (σ : Env) : Env := match mrun P n m k σ with
 | some x => x.2
 | none => []
def eR (P : Program) (n : Nat) (ops : Array Oper) (m : Nat) (l : List (Nat × Kd)) (σ : Env) : Env := match rrun P n ops m l σ with
 | some x => x.2
 | none => []
section
variable {P : Program} {f : FuncId} {n : Nat} {σ : Env} {ds : List Deferred} {w w1 : World} {Bs : List Nat} {R : Ending → World → Prop} {ops : Array Oper} {K : Env → World → Prop} {l : List (Nat × Kd)}
theorem eM_eq {m : Nat} {k k' : List Item} (h : (mrun P n m k σ).map (·.1) = some k') : mrun P n m k σ = some (k', eM P n m k σ) := by
 unfold eM
 cases hr : mrun P n m k σ with
 | none => rw [hr] at h; cases h
 | some x => rw [hr] at h; cases h; rfl
theorem eR_eq {m : Nat} {l' : List (Nat × Kd)} (h : (rrun P n ops m l σ).map (·.1) = some l') : rrun P n ops m l σ = some (l', eR P n ops m l σ) := by
 unfold eR
 cases hr : rrun P n ops m l σ with
 | none => rw [hr] at h; cases h
 | some x => rw [hr] at h; cases h; rfl
theorem sub1 {s : Nat} {v : Value} (h : find σ s = some v) (t : Nat) (u : Value) (hu : find ((s, v) :: σ) t = some u) : find σ t = some u := by
 rw [find_cons] at hu
 by_cases e : s = t
 · subst e; rw [if_pos rfl] at hu; rw [h, hu]
 · rwa [if_neg e] at hu
theorem RW.sub1 {s : Nat} {v : Value} (h : find σ s = some v) (hl : l.isEmpty = false) (hk : RW P ops n ds K l ((s, v) :: σ) w) : RW P ops n ds K l σ w :=
 RW.sub (by intro e; subst e; cases hl) (Go.BX.sub1 h) hk
theorem RH.sub1 {s : Nat} {v : Value} (h : find σ s = some v) (hl : l.isEmpty = false) (hk : RH P ops n ds w1 Bs K l ((s, v) :: σ) w) : RH P ops n ds w1 Bs K l σ w :=
 RH.sub (by intro e; subst e; cases hl) (Go.BX.sub1 h) hk
theorem uS1 {fn : Func} {args : Array Value} (hf : P.funcs[f]? = some fn) (h : WK P f fn.ntmps [.code (cd P f [])] ((List.range args.toList.length).zip args.toList) [] w R) (hb : fn.body = some (cd P f []) := by as_aux_lemma => kernel_rfl)
 (ha : Nat.ble args.toList.length fn.ntmps = true := by as_aux_lemma => kernel_rfl) : Calls P f args w R := WK.calls1 hf rfl hb ha rfl h
theorem uR {k : List Item} (m : Nat) (t : List It) (hk : WK P f n (t.map (it P f)) (eM P n m k σ) ds w R) (h : (mrun P n m k σ).map (·.1) = some (t.map (it P f)) := by as_aux_lemma => kernel_rfl) : WK P f n k σ ds w R :=
 steps_spec m (eM_eq h) hk
theorem uF {k : List Item} (m : Nat) (hk : WK P f n k (eR P n ops m l σ) ds w R) (h : (rrun P n ops m l σ).map (·.1) = some [] := by as_aux_lemma => kernel_rfl) :
 RW P ops n ds (fun σ' w' => WK P f n k σ' ds w' R) l σ w := rrun_spec m l [] σ _ (eR_eq h) hk
theorem uHF {k : List Item} (hS : Chg w1 Bs w) (m : Nat) (hk : WK P f n k (eR P n ops m l σ) ds w R) (h : (rrun P n ops m l σ).map (·.1) = some [] := by as_aux_lemma => kernel_rfl) :
 RH P ops n ds w1 Bs (fun σ' w' => WK P f n k σ' ds w' R) l σ w := rrunH_spec hS m l [] σ _ (eR_eq h) hk
theorem uT (s : Nat) (b : Bool) (ht : b = true → RW P ops n ds K l ((s, .bool true) :: σ) w) (hf : b = false → RW P ops n ds K l ((s, .bool false) :: σ) w)
 (h : find σ s = some (.bool b) := by as_aux_lemma => kernel_rfl) (hl : l.isEmpty = false := by as_aux_lemma => kernel_rfl) : RW P ops n ds K l σ w := by
 cases b
 · exact RW.sub1 h hl (hf rfl)
 · exact RW.sub1 h hl (ht rfl)
theorem uD (s : Nat) (q : Prop) [Decidable q] (ht : q → RW P ops n ds K l ((s, .bool true) :: σ) w) (hf : ¬ q → RW P ops n ds K l ((s, .bool false) :: σ) w)
 (h : find σ s = some (.bool (decide q)) := by as_aux_lemma => kernel_rfl) (hl : l.isEmpty = false := by as_aux_lemma => kernel_rfl) : RW P ops n ds K l σ w :=
 uT s (decide q) (fun h => ht (of_decide_eq_true h)) (fun h => hf (of_decide_eq_false h)) h hl
theorem uE {α : Type} [BEq α] [LawfulBEq α] (s : Nat) (x y : α) (ht : x = y → RW P ops n ds K l ((s, .bool true) :: σ) w) (hf : x ≠ y → RW P ops n ds K l ((s, .bool false) :: σ) w)
 (h : find σ s = some (.bool (x == y)) := by as_aux_lemma => kernel_rfl) (hl : l.isEmpty = false := by as_aux_lemma => kernel_rfl) : RW P ops n ds K l σ w :=
 uT s (x == y) (fun h => ht (eq_of_beq h)) (fun h => hf (ne_of_beq_false h)) h hl
theorem uS {k : List Item} {σ' : Env} (h : WK P f n k σ' ds w R) (hσ : pick (σ'.map (·.1)) σ = σ') : WK P f n k σ ds w R :=
 WK.sub (pick_find σ _) (hσ.symm ▸ h)
theorem uB {k : List Item} {σ' : Env} (h : WK P f n k σ' ds w R) (hσ : pick (σ'.map (·.1)) σ = σ' := by as_aux_lemma => kernel_rfl) : WK P f n k σ ds w R := uS h hσ
theorem uL {α : Type} {p : List Nat} {g : FuncId} {c : Code} {k : List Item} (st : α → Env) (I : α → World → Prop) (μ : α → Nat) (x0 : α) (h0 : I x0 w)
 (hstep : ∀ x w, I x w → (∀ x' w', I x' w' → μ x' < μ x → WK P f n (.inLoop (cd P g p) :: k) (st x') ds w' R) → WK P f n (.code (cd P g p) :: .inLoop (cd P g p) :: k) (st x) ds w R)
 (hc : c = .loop (cd P g p) := by as_aux_lemma => kernel_rfl) (hσ : pick ((st x0).map (·.1)) σ = st x0 := by as_aux_lemma => kernel_rfl) :
 WK P f n (.code c :: k) σ ds w R := uS (WK.loop hc st I μ x0 h0 rfl hstep) hσ
def kO (l : List (Nat × Kd)) : Kd := match l with
 | (_, κ) :: _ => κ
 | [] => .seq
def dO (ops : Array Oper) (l : List (Nat × Kd)) : Option Tmp := match l with
 | (i, _) :: _ => match ops[i]? with
  | some o => o.dst
  | none => none
 | [] => none
def vO (ops : Array Oper) (l : List (Nat × Kd)) (σ : Env) : Value := match l with
 | (i, _) :: _ => match ops[i]? with
  | some o => match o.op with
   | .store _ _ v => rho σ v
   | _ => undef
  | none => undef
 | [] => undef
def isQui : Kd → Bool
 | .qui => true
 | _ => false
theorem qui_ne {κ : Kd} (h : isQui κ = false) : κ ≠ .qui := by
 intro e
 subst e
 cases h
theorem uV (T : TypeId) (k : Nat) {b o : Nat} {cs : List Value} (hc : Cells w b o cs) (h : RW P ops n ds K l.tail (putO (dO ops l) ((loadE P T cs k).getD undef) σ) w)
 (hl : look P n ops l σ = some (kO l, semV (Instr.loadAt T (.pointer (some ⟨b, o + k, none⟩))), dO ops l, l.tail) := by as_aux_lemma => kernel_rfl) (he : (loadE P T cs k).isSome = true := by as_aux_lemma => kernel_rfl) : RW P ops n ds K l σ w := by
 obtain ⟨v, hv⟩ := Option.isSome_iff_exists.1 he
 rw [hv] at h
 exact RW.load hl hc rfl hv h
theorem uHV (T : TypeId) (k : Nat) {b o : Nat} {cs : List Value} (hS : Chg w1 Bs w) (hc : Cells w1 b o cs) (hb : b ∉ Bs) (h : RH P ops n ds w1 Bs K l.tail (putO (dO ops l) ((loadE P T cs k).getD undef) σ) w) (hn : 0 < cs.length := by simp)
 (hl : look P n ops l σ = some (.qui, semV (Instr.loadAt T (.pointer (some ⟨b, o + k, none⟩))), dO ops l, l.tail) := by as_aux_lemma => kernel_rfl) (he : (loadE P T cs k).isSome = true := by as_aux_lemma => kernel_rfl) : RH P ops n ds w1 Bs K l σ w := by
 obtain ⟨v, hv⟩ := Option.isSome_iff_exists.1 he
 rw [hv] at h
 exact RH.load hl hS hc hb hn rfl hv h
theorem nq0 {b : Nat} : b ∉ ([] : List Nat) := by simp
theorem uI (t : Int) (h : RW P ops n ds K l.tail (putO (dO ops l) (.int .i64 t) σ) w) (hb : -9223372036854775808 ≤ t ∧ t ≤ 9223372036854775807 := by omega)
 (hl : lookP P n ops l σ = some (kO l, .int .i64 (IntKind.i64.wrap t), dO ops l, l.tail) := by as_aux_lemma => kernel_rfl) : RW P ops n ds K l σ w := RW.wr64 hl hb h
theorem uK {g : FuncId} {args : Array Value} {φ : Value → World → Prop} (hc : Calls P g args w (Ret fun v w' => Ext w w' ∧ φ v w')) (hk : ∀ v w', Ext w w' → φ v w' → RW P ops n ds K l.tail (putO (dO ops l) v σ) w')
 (hl : lookC P n ops l σ = some (kO l, g, args, dO ops l, l.tail) := by as_aux_lemma => kernel_rfl) (hκ : isQui (kO l) = false := by as_aux_lemma => kernel_rfl) : RW P ops n ds K l σ w := RW.call hl (qui_ne hκ) hc hk
theorem uKS {g : FuncId} {args : Array Value} {φ : Value → World → Prop} (hc : Calls P g args w (Ret φ)) (hk : ∀ v w', φ v w' → RW P ops n ds K l.tail (putO (dO ops l) v σ) w')
 (hl : lookC P n ops l σ = some (.seq, g, args, dO ops l, l.tail) := by as_aux_lemma => kernel_rfl) : RW P ops n ds K l σ w := RW.callS hl hc hk
section
variable {w0 : World} {S : Nat → Prop} {O : List Nat} {M : Heap} {W : List OwnS} {G : List Fact}
theorem uX {α : Type} {sh : Shape α} {xs : List α} {x : α} {a : Option Addr} {len cap : Nat} (T : TypeId) (ix : Int) (H : Hp w0 S O M W G w) (g : Nat) (hg : G[g]? = some (Rp sh.slice [.slice a len cap] xs)) (k : Nat) (hk : ix = (k : Int)) (hx : xs[k]? = some x)
 (h : ∀ b o es, sh.rep (Av S w0 O (idsOf M W)) w es x → Hp w0 S O M W (Fc b o es :: G) w → RW P ops n ds K l.tail (putO (dO ops l) (.pointer (some ⟨b, o, none⟩)) σ) w)
 (hl : look P n ops l σ = some (kO l, semV (Instr.indexAt T (.slice a len cap) (.int .i64 ix)), dO ops l, l.tail) := by as_aux_lemma => kernel_rfl) (hT : sliceE P T = some (((sliceE P T).map (·.1)).getD 0, sh.size) := by as_aux_lemma => kernel_rfl) : RW P ops n ds K l σ w :=
 RW.index hl hT H g hg k hk hx h
theorem uC (c : Array Value) (T : TypeId) (H : Hp w0 S O M W G w)
 (hk : ∀ b w', Hp w0 S O ((b, .cells c T (0, 0)) :: M) W G w' → RW P ops n ds K l.tail (putO (dO ops l) (.P b 0) σ) w') (hl : ∀ b, lookM P n ops l σ b = some (kO l, .cells c T (0, 0), .P b 0, dO ops l, l.tail) := by exact (fun b => by as_aux_lemma => kernel_rfl))
 (hκ : isQui (kO l) = false := by as_aux_lemma => kernel_rfl) : RW P ops n ds K l σ w := RW.new hl (qui_ne hκ) H hk
theorem uW {T' : TypeId} {b : Nat} {c : Array Value} (T : TypeId) (k : Nat) (c' : Array Value) (H : Hp w0 S O M W G w) (i : Nat) (hm : M[i]? = some (b, .cells c T' (0, 0)))
 (h : ∀ w', Hp w0 S O (M.set i (b, .cells c' T' (0, 0))) W G w' → RW P ops n ds K l.tail (putO none undef σ) w') (hl : look P n ops l σ = some (.seq, semU (Instr.storeAt T (.pointer (some ⟨b, k, none⟩)) (vO ops l σ)), none, l.tail) := by as_aux_lemma => kernel_rfl)
 (hs : storeE P T k (vO ops l σ) c = some c' := by as_aux_lemma => kernel_rfl) : RW P ops n ds K l σ w := RW.store hl H i hm hs rfl h
theorem uWC {T' : TypeId} {b : Nat} {c : Array Value} (T : TypeId) (k : Nat) (c' : Array Value) (H : Hp w0 S O M W G w) (i : Nat) (hm : M[i]? = some (b, .cells c T' (0, 0)))
 (h : ∀ w', Chg w [b] w' → Hp w0 S O (M.set i (b, .cells c' T' (0, 0))) W G w' → RW P ops n ds K l.tail (putO none undef σ) w') (hl : look P n ops l σ = some (.seq, semU (Instr.storeAt T (.pointer (some ⟨b, k, none⟩)) (vO ops l σ)), none, l.tail) := by as_aux_lemma => kernel_rfl)
 (hs : storeE P T k (vO ops l σ) c = some c' := by as_aux_lemma => kernel_rfl) : RW P ops n ds K l σ w := RW.storeC hl H i hm hs rfl h
theorem uA {α : Type} {sh : Shape α} {v : Value} {a2 : Option Addr} {l2 c2 : Nat} {e : TypeId} {xs ys : List α} (T ty : TypeId) (by_ : Nat) (zs : List α) (H : Hp w0 S O M W G w) (i : Nat) (hi : W[i]? = some ⟨sh, e, v, xs⟩) (g : Nat) (hg : G[g]? = some (Rp sh.slice [.slice a2 l2 c2] ys))
 (hz : xs ++ ys = zs) (hby : zs.length * by_ ≤ 140737488355328 ∧ zs.length ≤ 9223372036854775807)
 (h : ∀ a c w', Hp w0 S O M (W.set i ⟨sh, e, .slice a zs.length c, zs⟩) G w' → zs.length ≤ c → RW P ops n ds K l.tail (putO (dO ops l) (.slice a zs.length c) σ) w')
 (hl : look P n ops l σ = some (.seq, semV (Builtin.append_ #[T, T] ty #[v, .slice a2 l2 c2]), dO ops l, l.tail) := by as_aux_lemma => kernel_rfl) (hT : elemE P T = some (e, sh.size, by_, true) := by as_aux_lemma => kernel_rfl) : RW P ops n ds K l σ w :=
 RW.appendW hl hT rfl H i hi g hg hz hby h
theorem Hp.addR (H : Hp w0 S O M W G w) {α : Type} {sh : Shape α} {cs : List Value} {x : α} (h : sh.rep (Av S w0 O (idsOf M W)) w cs x) : Hp w0 S O M W (Rp sh cs x :: G) w := H.add h
theorem Hp.addM (H : Hp w0 S O M W G w) {w' : World} (he : Ext w w') {α : Type} {sh : Shape α} {cs : List Value} {x : α} (h : sh.rep (Nw (Av S w0 O (idsOf M W)) w) w' cs x) : Hp w0 S O M W (Rp sh cs x :: G) w' := H.addN he h
theorem Hp.addO {G' : List Fact} (H' : Hp w0 S O M W G' w1) (H : Hp w0 S O M W G w) (he : Ext w w1) {α : Type} {sh : Shape α} {cs : List Value} {x : α} (h : sh.rep (Nw (Av S w0 O (idsOf M W)) w) w1 cs x) : Hp w0 S O M W (Rp sh cs x :: G') w1 := H'.add ((H.addN (F := Rp sh cs x) he h).fact 0 rfl)
end
theorem uP (m : Nat) (hk : RW P ops n ds K (l.drop m) (eR P n ops m l σ) w) (h : (rrun P n ops m l σ).map (·.1) = some (l.drop m) := by as_aux_lemma => kernel_rfl) : RW P ops n ds K l σ w :=
 rrun_spec m l _ σ _ (eR_eq h) hk
theorem uHP (hS : Chg w1 Bs w) (m : Nat) (hk : RH P ops n ds w1 Bs K (l.drop m) (eR P n ops m l σ) w) (h : (rrun P n ops m l σ).map (·.1) = some (l.drop m) := by as_aux_lemma => kernel_rfl) : RH P ops n ds w1 Bs K l σ w :=
 rrunH_spec hS m l _ σ _ (eR_eq h) hk
end
theorem Hp.take {w0 w : World} {S : Nat → Prop} {O : List Nat} {M : Heap} {W : List OwnS} {G : List Fact} (H : Hp w0 S O M W G w) (n m : Nat) : Hp w0 S O (M.take n) (W.take m) G w := H.drop (List.take_sublist _ _) (List.take_sublist _ _)
end Go.BX

/-
 THE ENGINE: bits of numbers: a mask, a bit set above.
 No condition.
-/
namespace Go.BX
theorem and_u64 {x m : Int} {j : Nat} (hj : (2 : Int) ^ j = m + 1) (hj2 : j ≤ 63) (hx : 0 ≤ x ∧ x ≤ 18446744073709551615) :
 Value.int .u64 (IntKind.u64.wrap ((BitVec.ofInt 64 x &&& BitVec.ofInt 64 m).toNat : Nat)) = .int .u64 (x % (m + 1)) := by
 obtain ⟨n, rfl⟩ := Int.eq_ofNat_of_zero_le hx.1
 have hm : m = ((2 ^ j - 1 : Nat) : Int) := by
  have d : ((2 ^ j : Nat) : Int) = m + 1 := by rw [← hj]; simp
  have f : 0 < 2 ^ j := Nat.pow_pos (by decide)
  omega
 have hlt : 2 ^ j ≤ 2 ^ 63 := Nat.pow_le_pow_right (by decide) hj2
 have hpos : 0 < 2 ^ j := Nat.pow_pos (by decide)
 subst hm
 have e : (BitVec.ofInt 64 ((n : Nat) : Int) &&& BitVec.ofInt 64 ((2 ^ j - 1 : Nat) : Int)).toNat = n % 2 ^ j := by
  rw [BitVec.ofInt_natCast, BitVec.ofInt_natCast, BitVec.toNat_and, BitVec.toNat_ofNat, BitVec.toNat_ofNat, Nat.mod_eq_of_lt (a := n) (by omega), Nat.mod_eq_of_lt (a := 2 ^ j - 1) (by omega), Nat.and_two_pow_sub_one_eq_mod]
 have b : ((2 ^ j - 1 : Nat) : Int) + 1 = ((2 ^ j : Nat) : Int) := by omega
 rw [e, b]
 have c : ((n % 2 ^ j : Nat) : Int) = (n : Int) % ((2 ^ j : Nat) : Int) := by simp
 have g : n % 2 ^ j < 2 ^ j := Nat.mod_lt _ hpos
 rw [wr_u64 (by omega), c]
end Go.BX

/-
 THE ENGINE: equality of structs of plain values.
 No condition.
-/
namespace Go.BX
def pureS {α : Type} (P : Program) : Sem α → Option α
 | .pure v => some v
 | .program k => pureS P (k P)
 | _ => none
theorem pureS_run {α : Type} {P : Program} : ∀ {s : Sem α} {v : α}, pureS P s = some v → ∀ w, s.run P w = .ok v w := by
 intro s
 induction s with
 | pure a => intro v h w; simp only [pureS, Option.some.injEq] at h; subst h; rfl
 | program k ih => intro v h w; simp only [pureS] at h; simp only [Sem.run]; exact ih P h w
 | _ => intro v h; simp [pureS] at h
def eqFs (P : Program) (rc : TypeId → Value → Value → Option (List Bool)) (xs ys : Array Value) : List Field → Option (List Bool)
 | [] => some []
 | f :: fs => cond (f.name == "_") none (match pureS P (part f.type xs f.offset), pureS P (part f.type ys f.offset) with
  | some a, some b => match rc f.type a b, eqFs P rc xs ys fs with
   | some l, some m => some (l ++ m)
   | _, _ => none
  | _, _ => none)
def eqN (P : Program) : Nat → TypeId → Value → Value → Option (List Bool)
 | 0, _, _, _ => none
 | d + 1, t, x, y => match P.underlying t with
  | some (.int _) => match x, y with
   | .int k a, .int k' b => cond (k == k') (some [a == b]) none
   | _, _ => none
  | some .bool => match x, y with
   | .bool a, .bool b => some [a == b]
   | _, _ => none
  | some .string => match x, y with
   | .string a, .string b => some [a.toList == b.toList]
   | _, _ => none
  | some (.struct fs) => match x, y with
   | .agg xs, .agg ys => cond (P.stoodInHeld t) none (eqFs P (eqN P d) xs ys fs.toList)
   | _, _ => none
  | _ => none
theorem eqFs_run {P : Program} {d m : Nat} (ih : ∀ t x y l, eqN P d t x y = some l → ∀ w, (Op.equalIn (d + m) t x y).run P w = .ok (l.all id) w) {xs ys : Array Value} :
 ∀ (fs : List Field) (l : List Bool), eqFs P (eqN P d) xs ys fs = some l → ∀ w, (Op.eqFields (d + m) xs ys fs).run P w = .ok (l.all id) w
 | [], l, h, w => by
  simp only [eqFs, Option.some.injEq] at h
  subst h
  rfl
 | f :: fs, l, h, w => by
  simp only [eqFs] at h
  cases hn : (f.name == "_") with
  | true => rw [hn] at h; cases h
  | false =>
   rw [hn] at h
   simp only [cond_false] at h
   have hne : f.name ≠ "_" := by simpa using hn
   cases h1 : pureS P (part f.type xs f.offset) with
   | none => rw [h1] at h; cases h
   | some a =>
    cases h2 : pureS P (part f.type ys f.offset) with
    | none => rw [h1, h2] at h; cases h
    | some b =>
     rw [h1, h2] at h
     simp only at h
     cases h3 : eqN P d f.type a b with
     | none => rw [h3] at h; cases h
     | some l1 =>
      cases h4 : eqFs P (eqN P d) xs ys fs with
      | none => rw [h3, h4] at h; cases h
      | some l2 =>
       rw [h3, h4] at h
       simp only [Option.some.injEq] at h
       subst h
       have r1 := pureS_run h1 w
       have r2 := pureS_run h2 w
       have r3 := ih _ _ _ _ h3 w
       have r4 := eqFs_run ih fs l2 h4 w
       simp only [Op.eqFields, hne, ne_eq, not_false_eq_true, if_true, Sem.run_bind, r1, r2, r3, Result.andThen_ok, List.all_append]
       cases l1.all id
       · simp
       · simpa using r4
theorem eqN_run {P : Program} (m : Nat) : ∀ (d : Nat) (t : TypeId) (x y : Value) (l : List Bool), eqN P d t x y = some l → ∀ w, (Op.equalIn (d + m) t x y).run P w = .ok (l.all id) w
 | 0, t, x, y, l, h, w => by simp [eqN] at h
 | d + 1, t, x, y, l, h, w => by
  rw [show d + 1 + m = (d + m) + 1 by omega]
  simp only [eqN] at h
  split at h
  · rename_i q hu
    split at h
    · rename_i k a k' b
      cases hk : (k == k') with
      | false => rw [hk] at h; cases h
      | true =>
       rw [hk] at h
       simp only [cond_true, Option.some.injEq] at h
       subst h
       have : k = k' := by simpa using hk
       subst this
       rw [run_equalIn_int w (d + m) t k q a b hu]; simp
    · cases h
  · rename_i hu
    split at h
    · simp only [Option.some.injEq] at h
      subst h
      rw [run_equalIn_bool' w (d + m) t _ _ hu]; simp
    · cases h
  · rename_i hu
    split at h
    · simp only [Option.some.injEq] at h
      subst h
      rw [run_equalIn_string w (d + m) t _ _ hu]; simp
    · cases h
  · rename_i fs hu
    split at h
    · rename_i xs ys
      cases hs : P.stoodInHeld t with
      | true => rw [hs] at h; cases h
      | false =>
       rw [hs] at h
       simp only [cond_false] at h
       have hf : P.fieldsOf t = fs := by simp [Program.fieldsOf, hu]
       rw [run_equalIn_struct w (d + m) t xs ys (by rw [hf]; exact hu) hs, hf]
       exact eqFs_run (fun t x y l h w => eqN_run m d t x y l h w) fs.toList l h w
    · cases h
  · cases h
section
variable {P : Program} {n : Nat} {ds : List Deferred} {ops : Array Oper} {K : Env → World → Prop} {l r : List (Nat × Kd)} {σ : Env} {w : World} {κ : Kd} {d : Option Tmp}
theorem RW.eqA {T : TypeId} {xs ys : Array Value} {ox oy : Operand} (bs : List Bool) (hl : look P n ops l σ = some (κ, semV (do eqGuard .eql T ox oy (.agg xs) (.agg ys); binOp .eql T (.agg xs) (.agg ys)), d, r)) (hg : P.eqGuardType P.depth T = false)
 (he : eqN P 8 T (.agg xs) (.agg ys) = some bs) (hk : RW P ops n ds K r (putO d (.bool (bs.all id)) σ) w) : RW P ops n ds K l σ w := by
 refine RW.readS hl (fun w' _ => semV_run ?_) hk
 have a := eqN_run 9992 8 T _ _ bs he w'
 simp only [Sem.run_bind, run_eqGuard_agg w' .eql T ox oy xs ys hg, Result.andThen_ok, run_eql_struct]
 rw [show (10000 : Nat) = 8 + 9992 from rfl, a]; rfl
end
end Go.BX

/-
 THE ENGINE's DEFERRED CALLS: a call that is put off, and made when the function returns; it turns nothing.
 No condition.
-/
namespace Go.BX
section
variable {P : Program} {f : FuncId} {n : Nat} {σ : Env} {ds ds' : List Deferred} {w : World} {R : Ending → World → Prop}
theorem WK.codeD {c : Code} {k : List Item}
 (h : ∀ a, Fits n σ ds a → c.wp P (fun e a' w' => match e with | .normal => ∃ σ', Fits n σ' ds' a' ∧ WK P f n k σ' ds' w' R | _ => False) a w) : WK P f n (.code c :: k) σ ds w R := by
 intro b a cs d g i
 obtain ⟨e, a', w', hq, harr⟩ := h a i b k cs
 cases e with
 | normal =>
  obtain ⟨σ', hf', hk⟩ := hq
  obtain ⟨e, w'', fr, r, hc, rest⟩ := hk b a' cs d g hf'
  exact ⟨e, w'', fr, r, .of_steps harr hc, rest⟩
 | _ => exact hq.elim
def deferE (P : Program) : Sem Next → Option Deferred
 | .pure (.defer d) => some d
 | .program k => deferE P (k P)
 | _ => none
theorem deferE_run : ∀ {s : Sem Next} {d : Deferred}, deferE P s = some d → ∀ w, s.run P w = .ok (.defer d) w := by
 intro s
 induction s with
 | pure a => intro d h w; cases a <;> simp [deferE] at h; subst h; rfl
 | program k ih => intro d h w; simp only [deferE] at h; simp only [Sem.run]; exact ih P h w
 | _ => intro d h; simp [deferE] at h
def op1 (c : Code) : Oper := match (opsOf c).toList with
 | o :: _ => o
 | [] => default
def Idle (P : Program) (d : Deferred) : Prop := ∃ fv cap g args, d.target = .fn fv cap ∧ (∀ w, (invoke d.target d.args).run P w = .ok (.enter g args) w) ∧
 ∀ w, CallsD P g args .returning w (fun e u' w' => e = .returned (.tuple #[]) ∧ u' = .returning ∧ w' = w)
theorem Idle.leaves {fn : Func} {tmps : Array Value} {d : Deferred} {v : Value} (hi : Idle P d) (hr : (results fn tmps).run P w = .ok v w) (h : R (.returned v) w) : Leaves P fn tmps R [d] .returning w := by
 obtain ⟨fv, cap, g, args, a, b, c⟩ := hi
 refine ⟨by simp, fv, cap, g, args, a, b w, (c w).mono ?_⟩
 rintro e u' w' ⟨rfl, rfl, rfl⟩
 exact ⟨v, hr, h⟩
theorem WK.retD {fn : Func} {c : Code} {k : List Item} {v : Value} {d : Deferred} (hf : P.funcs[f]? = some fn) (hc : c = .ret) (hi : Idle P d) (hr : ∀ a, Fits n σ [d] a → (results fn a.tmps).run P w = .ok v w) (h : R (.returned v) w) :
 WK P f n (.code c :: k) σ [d] w R := by
 subst hc
 intro b a cs g j i
 obtain ⟨e, w', fr', hR, hs, hfn, hl⟩ := leaves_steps [d] .returning w { b.at a (.code .ret :: k) with mode := .returning } cs rfl i.defers rfl (by simp only [Frame.at]; rw [g]; exact hf) j (hi.leaves (hr a i) h)
 exact ⟨e, w', fr', hR, .of_steps (.one step_ret) hs, hfn.trans g, hl⟩
end
def op2 (c : Code) : Oper := match (opsOf c).toList with
 | _ :: o :: _ => o
 | _ => default
theorem WK.defer2 {P : Program} {f : FuncId} {n : Nat} {σ σ' : Env} {ds : List Deferred} {w : World} {R : Ending → World → Prop} {c : Code} {k : List Item} {o1 o : Oper} (d : Deferred) (hc : c = .region (idOf c) #[o1, o] false) (h1 : runOp P n #[o1, o] o1 σ = some σ') (hg : o.guard = none) (hd : o.dst = none) (hk : known σ' o = true)
 (hp : deferE P (execOp (rho σ') o) = some d) (h : WK P f n k σ' (d :: ds) w R) : WK P f n (.code c :: k) σ ds w R := by
 rw [hc]
 refine WK.codeD (ds' := d :: ds) fun a ha => wp_region ?_
 obtain ⟨v, hs, hf⟩ := runOp_spec h1 a ha
 show wpOps P #[o1, o] _ [0, 1] a w
 rw [wpOps_cons]
 refine OW.wpOp (o := o1) rfl ((hs w).ow ?_)
 generalize a.put o1.dst v = b at *
 rw [wpOps_cons]
 refine OW.wpOp (o := o) rfl ?_
 unfold OW
 have hw : Region.wanted o (yielded #[o1, o] b.tmps) = true := by simp [Region.wanted, hg]
 rw [if_pos hw]
 unfold Oper.wp
 rw [execOp_rho hf hk, deferE_run hp]
 simp only [Oper.upon]
 exact ⟨σ', ⟨by simp [Act.put, hd, hf.size], by simp [Act.put, hd, hf.defers], fun t v hv => by simpa [Act.put, hd] using hf.vals t v hv⟩, h⟩
end Go.BX

/-
 THE ENGINE's MAPS: a map that the call has to itself, as a list of (key, element, stamp).
 No condition.
-/
namespace Go.BX
open Go.RowKit (Below)
def ent {α β : Type} (mk : α → Value) (vk : β → Value) (x : α × β × Nat) : MapEntry := ⟨mk x.1, vk x.2.1, x.2.2⟩
def mapO {α β : Type} (mk : α → Value) (vk : β → Value) (L : List (α × β × Nat)) (c : Nat) : Obj := .map (L.map (ent mk vk)).toArray c
def iterO {α β : Type} (b since : Nat) (dn : List (α × β × Nat)) (last : Nat) : Obj := .mapIter (some b) since (dn.map (·.2.2)).toArray last
section
variable {α β : Type} [DecidableEq α]
def mfind (x : α) : List (α × β × Nat) → Option β
 | [] => none
 | e :: l => if e.1 = x then some e.2.1 else mfind x l
def mset (x : α) (v : β) (c : Nat) : List (α × β × Nat) → List (α × β × Nat)
 | [] => [(x, v, c)]
 | e :: l => if e.1 = x then (x, v, e.2.2) :: l else e :: mset x v c l
def mdel (x : α) : List (α × β × Nat) → List (α × β × Nat)
 | [] => []
 | e :: l => if e.1 = x then l else e :: mdel x l
def mclk (x : α) (c : Nat) (L : List (α × β × Nat)) : Nat := if (mfind x L).isSome then c else c + 1
def midx (x : α) : List (α × β × Nat) → Option Nat
 | [] => none
 | e :: l => if e.1 = x then some 0 else (midx x l).map (· + 1)
end
structure KeyOk {α : Type} [DecidableEq α] (P : Program) (K : TypeId) (mk : α → Value) : Prop where
 und : ∃ d, P.underlying K = some d ∧ ((∀ a b, Instr.sameNow d (mk a) (mk b) = some (decide (a = b))) ∨ ((∀ a b, Instr.sameNow d (mk a) (mk b) = none) ∧ ∀ a b w, (Op.equal K (mk a) (mk b)).run P w = .ok (decide (a = b)) w))
 stays : ∀ a, Instr.sameBits 10000 (mk a) (mk a) = true
 check : ∀ (w : World) (b : Bool) (a : α), (Instr.checkKey b 10000 K (mk a)).run P w = .ok () w
theorem checkKey_int {P : Program} {K : TypeId} {k : IntKind} (h : P.underlying K = some (.int k)) : ∀ (n : Nat) (b : Bool) (a : Int) (w : World), (Instr.checkKey b (n + 1) K (.int k a)).run P w = .ok () w := fun n b a w => by
 simp [Instr.checkKey, run_underlying h]
theorem checkKey_str {P : Program} {K : TypeId} (h : P.underlying K = some .string) : ∀ (n : Nat) (b : Bool) (a : ByteArray) (w : World), (Instr.checkKey b (n + 1) K (.string a)).run P w = .ok () w := fun n b a w => by
 simp [Instr.checkKey, run_underlying h]
theorem beqB (a b : ByteArray) : (a == b) = decide (a = b) := by
 rw [Bool.eq_iff_iff, MapKept.bytes_beq, decide_eq_true_iff]
theorem KeyOk.int {P : Program} {K : TypeId} {k : IntKind} (h : P.underlying K = some (.int k)) : KeyOk P K (Value.int k) where
 und := ⟨_, h, .inl fun a b => by simp [Instr.sameNow]; rfl⟩
 stays a := by simp [Instr.sameBits]
 check w b a := checkKey_int h 9999 b a w
theorem KeyOk.str {P : Program} {K : TypeId} (h : P.underlying K = some .string) : KeyOk P K Value.string where
 und := ⟨_, h, .inl fun a b => congrArg some (beqB a b)⟩
 stays a := by simp only [Instr.sameBits, beqB, decide_true]
 check w b a := checkKey_str h 9999 b a w
section
variable {α β : Type} [DecidableEq α] {P : Program} {K : TypeId} {mk : α → Value} {vk : β → Value} {w : World}
theorem findNow_mid {d : TypeDesc} (h : ∀ a b, Instr.sameNow d (mk a) (mk b) = some (decide (a = b))) (x : α) : ∀ (L : List (α × β × Nat)) (i : Nat),
 Instr.findNow d (mk x) (L.map (ent mk vk)) i = some ((midx x L).bind fun j => (mfind x L).map fun v => (i + j, vk v))
 | [], i => rfl
 | e :: l, i => by
  have hc := h x e.1
  simp only [List.map_cons, Instr.findNow, ent, hc, midx, mfind]
  by_cases he : e.1 = x
  · simp [he]
  · have hx : ¬ x = e.1 := fun hh => he hh.symm
    have ih := findNow_mid h x l (i + 1)
    simp only [he, hx, decide_false, if_false]
    change Instr.findNow d (mk x) (l.map (ent mk vk)) (i + 1) = _
    rw [ih]
    cases midx x l with
    | none => rfl
    | some j => cases mfind x l <;> simp [Nat.add_assoc, Nat.add_comm 1]
theorem midx_find (x : α) : ∀ (L : List (α × β × Nat)), (midx x L).isSome = (mfind x L).isSome
 | [] => rfl
 | e :: l => by
  simp only [midx, mfind]
  split
  · rfl
  · rw [Option.isSome_map, midx_find x l]
theorem findAsking_mid (h : ∀ a b w, (Op.equal K (mk a) (mk b)).run P w = .ok (decide (a = b)) w) (x : α) : ∀ (L : List (α × β × Nat)) (i : Nat) (w : World),
 (Instr.findAsking K (mk x) (L.map (ent mk vk)) i).run P w = .ok ((midx x L).bind fun j => (mfind x L).map fun v => (i + j, vk v)) w
 | [], i, w => rfl
 | e :: l, i, w => by
  have hc := h x e.1 w
  simp only [List.map_cons, Instr.findAsking, ent, Sem.run_bind, hc, Result.andThen_ok, midx, mfind]
  by_cases he : e.1 = x
  · simp [he]
  · have hx : ¬ x = e.1 := fun hh => he hh.symm
    have ih := findAsking_mid h x l (i + 1) w
    simp only [he, hx, decide_false, if_false, Bool.false_eq_true]
    change (Instr.findAsking K (mk x) (l.map (ent mk vk)) (i + 1)).run P w = _
    rw [ih]
    cases midx x l with
    | none => rfl
    | some j => cases mfind x l <;> simp [Nat.add_assoc, Nat.add_comm 1]
omit [DecidableEq α] in
theorem findNow_no {d : TypeDesc} (h : ∀ a b, Instr.sameNow d (mk a) (mk b) = none) (x : α) (L : List (α × β × Nat)) (i : Nat) :
 Instr.findNow d (mk x) (L.map (ent mk vk)) i = if L = [] then some none else none := by
 cases L with
 | nil => rfl
 | cons e l =>
  have hc := h x e.1
  simp only [List.map_cons, Instr.findNow, ent, hc]
  rfl
theorem findKey_run (hk : KeyOk P K mk) (x : α) (L : List (α × β × Nat)) (w : World) :
 (Instr.findKey K (mk x) (L.map (ent mk vk))).run P w = .ok ((midx x L).bind fun j => (mfind x L).map fun v => (j, vk v)) w := by
 obtain ⟨d, hd, hs | ⟨hn, hs⟩⟩ := hk.und
 · have := findNow_mid (vk := vk) hs x L 0
   simp only [Nat.zero_add] at this
   simp [Instr.findKey, run_underlying hd, this]
 · have b := findNow_no (vk := vk) hn x L 0
   have a := findAsking_mid (vk := vk) hs x L 0 w
   simp only [Nat.zero_add] at a
   simp only [Instr.findKey, Sem.run_bind, run_underlying hd, Result.andThen_ok, b]
   by_cases hL : L = []
   · subst hL; rfl
   · simp only [hL, if_false]
     exact a
theorem modify_mset (x : α) (v : β) (c : Nat) : ∀ (L : List (α × β × Nat)) (i : Nat), midx x L = some i →
 (L.map (ent mk vk)).modify i (fun e => { e with key := mk x, val := vk v }) = (mset x v c L).map (ent mk vk)
 | e :: l, i, h => by
  simp only [midx, mset] at h ⊢
  by_cases he : e.1 = x
  · rw [if_pos he] at h ⊢
    cases h
    rfl
  · rw [if_neg he] at h ⊢
    cases hm : midx x l with
    | none => rw [hm] at h; cases h
    | some j =>
     rw [hm] at h
     cases h
     simp [modify_mset x v c l j hm]
theorem push_mset (x : α) (v : β) (c : Nat) : ∀ (L : List (α × β × Nat)), midx x L = none → mset x v c L = L ++ [(x, v, c)]
 | [], _ => rfl
 | e :: l, h => by
  simp only [midx, mset] at h ⊢
  by_cases he : e.1 = x
  · rw [if_pos he] at h; cases h
  · rw [if_neg he] at h ⊢
    rw [push_mset x v c l (by simpa using h)]; rfl
theorem erase_mdel (x : α) : ∀ (L : List (α × β × Nat)) (i : Nat), midx x L = some i → (L.map (ent mk vk)).eraseIdx i = (mdel x L).map (ent mk vk)
 | e :: l, i, h => by
  simp only [midx, mdel] at h ⊢
  by_cases he : e.1 = x
  · rw [if_pos he] at h ⊢
    cases h
    rfl
  · rw [if_neg he] at h ⊢
    cases hm : midx x l with
    | none => rw [hm] at h; cases h
    | some j =>
     rw [hm] at h
     cases h
     simp [erase_mdel x l j hm]
theorem mdel_none (x : α) : ∀ (L : List (α × β × Nat)), midx x L = none → mdel x L = L
 | [], _ => rfl
 | e :: l, h => by
  simp only [midx, mdel] at h ⊢
  by_cases he : e.1 = x
  · rw [if_pos he] at h; cases h
  · rw [if_neg he] at h ⊢
    rw [mdel_none x l (by simpa using h)]
theorem getObj_run {b : Nat} {es : Array MapEntry} {c : Nat} (h : w.heap[b]? = some (.map es c)) : (getObj b).run P w = .ok (.map es c) w := by
 simp [getObj, Sem.run, h]
theorem setObj_run {b : Nat} {es : Array MapEntry} {c : Nat} {o' : Obj} (h : w.heap[b]? = some (.map es c)) : (setObj b o').run P w = .ok () { w with heap := w.heap.setIfInBounds b o' } := by
 simp [setObj, Sem.run, h]
theorem lookup_run (hk : KeyOk P K mk) {T E : TypeId} (hT : P.underlying T = some (.map K E)) {z : β} (hz : ∀ w, (zeroValue E).run P w = .ok (vk z) w) {b c : Nat} {L : List (α × β × Nat)} (x : α) (ok : Bool) (hb : w.heap[b]? = some (mapO mk vk L c)) :
 (Instr.lookup T (.map (some b)) (mk x) ok).run P w = .ok (if ok then .tuple #[vk ((mfind x L).getD z), .bool (mfind x L).isSome] else vk ((mfind x L).getD z)) w := by
 have a := midx_find x L
 have d := findKey_run (vk := vk) hk x L w
 simp only [Instr.lookup, Sem.run_bind, run_underlying hT, Result.andThen_ok, getObj_run hb, mapO, hk.check, d, Sem.run_pure]
 cases hm : mfind x L with
 | none =>
  rw [hm] at a
  cases hi : midx x L with
  | none => simp [hz]
  | some j => rw [hi] at a; cases a
 | some v =>
  rw [hm] at a
  cases hi : midx x L with
  | none => rw [hi] at a; cases a
  | some j => simp
theorem update_run (hk : KeyOk P K mk) {T E : TypeId} (hT : P.underlying T = some (.map K E)) {b c : Nat} {L : List (α × β × Nat)} (x : α) (v : β) (hb : w.heap[b]? = some (mapO mk vk L c)) :
 (Instr.mapUpdate T (.map (some b)) (mk x) (vk v)).run P w = .ok () { w with heap := w.heap.setIfInBounds b (mapO mk vk (mset x v c L) (mclk x c L)) } := by
 have a := midx_find x L
 have d := findKey_run (vk := vk) hk x L w
 simp only [Instr.mapUpdate, Sem.run_bind, run_underlying hT, Result.andThen_ok, getObj_run hb, mapO, hk.check, d]
 unfold mclk
 cases hm : mfind x L with
 | none =>
  rw [hm] at a
  cases hi : midx x L with
  | none =>
   simp only [Option.bind_none, Option.isSome_none, Bool.false_eq_true, if_false, setObj_run hb, push_mset x v c L hi]
   simp [ent]
  | some j => rw [hi] at a; cases a
 | some v0 =>
  rw [hm] at a
  cases hi : midx x L with
  | none => rw [hi] at a; cases a
  | some j =>
   have hj : ∃ e, L[j]? = some e ∧ e.1 = x := by
    clear a d hm hb
    induction L generalizing j with
    | nil => cases hi
    | cons e l ih =>
     simp only [midx] at hi
     split at hi
     · cases hi; exact ⟨e, rfl, by assumption⟩
     · cases hm : midx x l with
       | none => rw [hm] at hi; cases hi
       | some i => rw [hm] at hi; cases hi; exact ih i hm
   obtain ⟨e, he, hex⟩ := hj
   have hs := hk.stays x
   have hmod : ((L.map (ent mk vk)).toArray.modify j fun e => { e with key := mk x, val := vk v }) = ((mset x v c L).map (ent mk vk)).toArray := by
    apply Array.toList_inj.1
    rw [Array.toList_modify]
    exact modify_mset x v c L j hi
   simp only [Option.bind_some, Option.map_some, List.getElem?_toArray, List.getElem?_map, he, ent, Option.getD_some, hex, Instr.keyThatStays, hs, if_true, Sem.run_pure, Result.andThen_ok, Option.isSome_some, setObj_run hb, pure_bind]
   simp only [← hmod, ent]
theorem delete_run (hk : KeyOk P K mk) {T E : TypeId} (hT : P.underlying T = some (.map K E)) {b c : Nat} {L : List (α × β × Nat)} (x : α) {ts : Array TypeId} (t : TypeId) (ht : ts[0]? = some T) (hb : w.heap[b]? = some (mapO mk vk L c)) :
 (Builtin.delete_ ts t #[.map (some b), mk x]).run P w = .ok (.tuple #[]) { w with heap := w.heap.setIfInBounds b (mapO mk vk (mdel x L) c) } := by
 have a := midx_find x L
 have d := findKey_run (vk := vk) hk x L w
 simp only [Builtin.delete_, ht, List.getElem?_toArray, List.getElem?_cons_zero, List.getElem?_cons_succ, Sem.run_bind, run_underlying hT, Result.andThen_ok, getObj_run hb, mapO, hk.check, d]
 cases hm : mfind x L with
 | none =>
  rw [hm] at a
  cases hi : midx x L with
  | none => simp [setObj_run hb, mdel_none x L hi]
  | some j => rw [hi] at a; cases a
 | some v0 =>
  rw [hm] at a
  cases hi : midx x L with
  | none => rw [hi] at a; cases a
  | some j =>
   have he : (L.map (ent mk vk)).toArray.eraseIdxIfInBounds j = ((mdel x L).map (ent mk vk)).toArray := by
    apply Array.toList_inj.1
    rw [Array.toList_eraseIdxIfInBounds]
    exact erase_mdel x L j hi
   simp [setObj_run hb, he]
omit [DecidableEq α] in
theorem lenMap_run {T E : TypeId} (hT : P.underlying T = some (.map K E)) {b c : Nat} {L : List (α × β × Nat)} {ts : Array TypeId} (t : TypeId) (ht : ts[0]? = some T) (hb : w.heap[b]? = some (mapO mk vk L c)) :
 (Builtin.len_ ts t #[.map (some b)]).run P w = .ok (.int .i64 (L.length : Int)) w := by
 simp [Builtin.len_, ht, run_underlying hT, getObj_run hb, mapO, goInt]
end
theorem next_run {P : Program} {w : World} {r bm since c0 clock : Nat} {seen : Array Nat} {es : Array MapEntry} (ty : TypeId) (hr : w.heap[r]? = some (.mapIter (some bm) since seen c0)) (hb : w.heap[bm]? = some (.map es clock)) (hold : ∀ x ∈ es.toList, x.born < since) (hsc : since ≤ c0) :
 ((leftOf es seen).size = 0 ∧ (Instr.next (.pointer (some ⟨r, 0, none⟩)) false ty).run P w = .ok (.tuple #[.bool false]) w) ∨
 ∃ e ∈ (leftOf es seen).toList, ∃ w1 : World, (w1 = w ∨ w1 = w.drew) ∧ (Instr.next (.pointer (some ⟨r, 0, none⟩)) false ty).run P w = .ok (.tuple #[.bool true, e.key, e.val]) { w1 with heap := w1.heap.setIfInBounds r (.mapIter (some bm) since (seen.push e.born) clock) } := by
 simp only [Instr.next, getObj, Sem.run_bind, Sem.run, hr, hb, Result.andThen, next_test_false seen es since c0 hold hsc, Bool.false_eq_true, if_false]
 unfold leftOf
 have hmem : ∀ x ∈ (Array.filter (fun e => !seen.contains e.born) es).toList, x.born < since := fun x hx => hold x (by simp at hx ⊢; exact hx.1)
 generalize Array.filter (fun e => !seen.contains e.born) es = L at hmem ⊢
 have b : L.filter (fun x => decide (x.born < since)) = L := Array.filter_eq_self.2 (fun x hx => by simpa using hmem x (by simpa using hx))
 have c : L.filter (fun x => decide (x.born ≥ since)) = #[] := by
  rw [Array.filter_eq_empty_iff]
  intro x hx
  have := hmem x (by simpa using hx)
  simp
  omega
 simp only [b, c, Array.append_empty]
 by_cases h0 : L.size = 0
 · left
   have : L = #[] := Array.eq_empty_of_size_eq_zero h0
   subst this
   refine ⟨rfl, ?_⟩
   simp [choose, Sem.run, Question.forced]
 · right
   have hne : L.isEmpty = false := by simp [Array.isEmpty, h0]
   simp only [hne, Bool.false_eq_true, if_false, Array.empty_append, Array.size_map]
   have hch : ∃ (j : Nat) (w1 : World), j < L.size ∧ (w1 = w ∨ w1 = w.drew) ∧ (choose (Question.mapNext L.size)).run P w = .ok j w1 := by
    by_cases hf : L.size ≤ 1
    · exact ⟨0, w, by omega, .inl rfl, by simp [choose, Sem.run, Question.forced, hf]⟩
    · exact ⟨_, w.drew, Nat.mod_lt _ (by omega), .inr rfl, by
       simp only [choose, Sem.run, Question.forced, decide_eq_true_eq, hf, if_false, Question.cut]
       rfl⟩
   obtain ⟨j, w1, hj, hal, hrun⟩ := hch
   refine ⟨L[j], by simp, w1, hal, ?_⟩
   have a : w1.heap[r]? = some (.mapIter (some bm) since seen c0) := by rcases hal with rfl | rfl <;> exact hr
   simp only [hrun, Array.getElem?_map, Array.getElem?_eq_getElem hj, Option.map_some, Sem.run_bind, setObj, Sem.run, a, Result.andThen]
   rfl
theorem entry_run {P : Program} {w : World} {r bm since clock : Nat} {seen : Array Nat} {es : Array MapEntry} {e : MapEntry} (hr : w.heap[r]? = some (.mapIter (some bm) since (seen.push e.born) clock)) (hb : w.heap[bm]? = some (.map es clock)) (he : e ∈ es.toList) (hn : (es.toList.map (·.born)).Nodup) :
 (Instr.entry (.pointer (some ⟨r, 0, none⟩))).run P w = .ok (.tuple #[e.key, e.val]) w := by
 have hf : es.find? (·.born == e.born) = some e := by rw [← Array.find?_toList]; exact find_born e es.toList hn he
 simp only [Instr.entry, getObj, Sem.run_bind, Sem.run, hr, hb, Result.andThen, Array.back?_push, bne_self_eq_false, Bool.false_eq_true, if_false, hf]
 rfl
theorem cont_f (l : List Nat) (b : Nat) : (l.toArray.contains b = false) ↔ b ∉ l := by simp
theorem range_run {P : Program} {w : World} {T K E : TypeId} {bm clock : Nat} {es : Array MapEntry} (hT : P.underlying T = some (.map K E)) (hb : w.heap[bm]? = some (.map es clock)) :
 (Instr.range T (.map (some bm))).run P w = .ok (.pointer (some ⟨w.heap.size, 0, none⟩)) { w with heap := w.heap.push (.mapIter (some bm) clock #[] clock) } := by
 simp [Instr.range, run_underlying hT, getObj_run hb]
section
variable {α β : Type} {P : Program} {n : Nat} {ds : List Deferred} {ops : Array Oper} {K : Env → World → Prop} {l r : List (Nat × Kd)} {σ : Env} {w : World} {κ : Kd} {d : Option Tmp}
variable {w0 : World} {S : Nat → Prop} {O : List Nat} {M M' : Heap} {W : List OwnS} {G : List Fact} {mk : α → Value} {vk : β → Value} {L : List (α × β × Nat)} {b c : Nat} {T : TypeId}
theorem RW.mapGet [DecidableEq α] {Kt E : TypeId} {z : β} (x : α) (ok : Bool) (hl : look P n ops l σ = some (κ, semV (Instr.lookup T (.map (some b)) (mk x) ok), d, r)) (H : Hp w0 S O M W G w) (i : Nat) (hm : M[i]? = some (b, mapO mk vk L c))
 (hk : KeyOk P Kt mk) (hT : P.underlying T = some (.map Kt E)) (hz : ∀ w, (zeroValue E).run P w = .ok (vk z) w)
 (h : RW P ops n ds K r (putO d (if ok then .tuple #[vk ((mfind x L).getD z), .bool (mfind x L).isSome] else vk ((mfind x L).getD z)) σ) w) : RW P ops n ds K l σ w := by
 have hb := (H.own _ (List.mem_of_getElem? hm)).1
 have hlt := (Array.getElem?_eq_some_iff.1 hb).1
 exact RW.readS hl (fun w' he => semV_run (lookup_run hk hT hz x ok (by rw [Below.block he b hlt]; exact hb))) h
theorem RW.mapLen {E Kt : TypeId} {ts : Array TypeId} {t : TypeId} (hl : look P n ops l σ = some (κ, semV (Builtin.len_ ts t #[.map (some b)]), d, r)) (H : Hp w0 S O M W G w) (i : Nat) (hm : M[i]? = some (b, mapO mk vk L c))
 (ht : ts[0]? = some T) (hT : P.underlying T = some (.map Kt E))
 (h : RW P ops n ds K r (putO d (.int .i64 (L.length : Int)) σ) w) : RW P ops n ds K l σ w := by
 have hb := (H.own _ (List.mem_of_getElem? hm)).1
 have hlt := (Array.getElem?_eq_some_iff.1 hb).1
 exact RW.readS hl (fun w' he => semV_run (lenMap_run hT t ht (by rw [Below.block he b hlt]; exact hb))) h
theorem RW.mapSet [DecidableEq α] {Kt E : TypeId} (x : α) (v : β) (hl : look P n ops l σ = some (.seq, semU (Instr.mapUpdate T (.map (some b)) (mk x) (vk v)), d, r)) (H : Hp w0 S O M W G w) (i : Nat) (hm : M[i]? = some (b, mapO mk vk L c))
 (hk : KeyOk P Kt mk) (hT : P.underlying T = some (.map Kt E)) (hM : M.set i (b, mapO mk vk (mset x v c L) (mclk x c L)) = M')
 (h : ∀ w', Chg w [b] w' → Hp w0 S O M' W G w' → RW P ops n ds K r (putO d undef σ) w') : RW P ops n ds K l σ w := by
 subst hM
 have hb := (H.own _ (List.mem_of_getElem? hm)).1
 exact RW.actU hl (semU_run (update_run hk hT x v hb)) (h _ ⟨rfl, rfl, rfl, by simp, fun q _ hq => (Array.getElem?_setIfInBounds_ne (fun e => hq (by simp [e])) : (w.heap.setIfInBounds b _)[q]? = _)⟩ (H.put i hm _))
theorem RW.mapDel [DecidableEq α] {Kt E : TypeId} {ts : Array TypeId} {t : TypeId} (x : α) (hl : look P n ops l σ = some (.seq, semV (Builtin.delete_ ts t #[.map (some b), mk x]), d, r)) (H : Hp w0 S O M W G w) (i : Nat) (hm : M[i]? = some (b, mapO mk vk L c))
 (hk : KeyOk P Kt mk) (ht : ts[0]? = some T) (hT : P.underlying T = some (.map Kt E)) (hM : M.set i (b, mapO mk vk (mdel x L) c) = M')
 (h : ∀ w', Chg w [b] w' → Hp w0 S O M' W G w' → RW P ops n ds K r (putO d (.tuple #[]) σ) w') : RW P ops n ds K l σ w := by
 subst hM
 have hb := (H.own _ (List.mem_of_getElem? hm)).1
 exact RW.actV hl (semV_run (delete_run hk hT x t ht hb)) (h _ ⟨rfl, rfl, rfl, by simp, fun q _ hq => (Array.getElem?_setIfInBounds_ne (fun e => hq (by simp [e])) : (w.heap.setIfInBounds b _)[q]? = _)⟩ (H.put i hm _))
theorem RW.mapRange {Kt E : TypeId} (hl : look P n ops l σ = some (κ, semV (Instr.range T (.map (some b))), d, r)) (hκ : κ ≠ .qui) (H : Hp w0 S O M W G w) (i : Nat) (hm : M[i]? = some (b, mapO mk vk L c)) (hT : P.underlying T = some (.map Kt E))
 (h : ∀ q w', w.heap.size ≤ q → Hp w0 S O ((q, iterO (α := α) (β := β) b c [] c) :: M) W G w' → RW P ops n ds K r (putO d (.pointer (some ⟨q, 0, none⟩)) σ) w') : RW P ops n ds K l σ w := by
 have hb := (H.own _ (List.mem_of_getElem? hm)).1
 exact RW.makeS hl hκ (semV_run (range_run hT hb)) ⟨rfl, rfl, rfl, by simp, fun k hk => by
  show (w.heap.push _)[k]? = _
  rw [Array.getElem?_push, if_neg (by omega)]⟩ (h _ _ (Nat.le_refl _) (H.alloc _))
theorem RW.mapNext {q since last : Nat} {dn lf : List (α × β × Nat)} {ty : TypeId} (hl : look P n ops l σ = some (.seq, semV (Instr.next (.pointer (some ⟨q, 0, none⟩)) false ty), d, r)) (H : Hp w0 S O M W G w) (i : Nat) (hm : M[i]? = some (b, mapO mk vk L c))
 (j : Nat) (hj : M[j]? = some (q, iterO b since dn last)) (hp : (dn ++ lf).Perm L) (hn : (L.map (·.2.2)).Nodup) (hold : ∀ x ∈ L, x.2.2 < since) (hsc : since ≤ last)
 (hover : lf = [] → RW P ops n ds K r (putO d (.tuple #[.bool false]) σ) w)
 (hstep : ∀ e lf', lf.Perm (e :: lf') → ∀ w', Hp w0 S O (M.set j (q, iterO b since (dn ++ [e]) c)) W G w' → RW P ops n ds K r (putO d (.tuple #[.bool true, mk e.1, vk e.2.1]) σ) w') : RW P ops n ds K l σ w := by
 have hb := (H.own _ (List.mem_of_getElem? hm)).1
 have hr := (H.own _ (List.mem_of_getElem? hj)).1
 have hn' : ((dn ++ lf).map (·.2.2)).Nodup := (hp.map _).nodup_iff.2 hn
 have hlft : ∀ x : MapEntry, x ∈ (leftOf (L.map (ent mk vk)).toArray (dn.map (·.2.2)).toArray).toList ↔ ∃ e ∈ lf, ent mk vk e = x := by
  intro x
  unfold leftOf
  simp only [Array.toList_filter, List.mem_filter, List.mem_map, Bool.not_eq_true', cont_f]
  constructor
  · rintro ⟨⟨e, he, rfl⟩, hnot⟩
    refine ⟨e, ?_, rfl⟩
    rcases List.mem_append.1 (hp.mem_iff.2 he) with h | h
    · exact absurd ⟨e, h, rfl⟩ hnot
    · exact h
  · rintro ⟨e, he, rfl⟩
    refine ⟨⟨e, hp.mem_iff.1 (List.mem_append_right _ he), rfl⟩, ?_⟩
    rintro ⟨e', he', heq⟩
    rw [List.map_append, List.nodup_append] at hn'
    exact hn'.2.2 _ (List.mem_map.2 ⟨e', he', rfl⟩) _ (List.mem_map.2 ⟨e, he, rfl⟩) heq
 rcases next_run (P := P) ty hr hb (fun x hx => by
  obtain ⟨e, he, rfl⟩ := List.mem_map.1 hx
  exact hold e he) hsc with ⟨h0, hrun⟩ | ⟨x, hx, w1, hw1, hrun⟩
 · have hnil : lf = [] := by
    cases lf with
    | nil => rfl
    | cons e l' =>
     have := (hlft (ent mk vk e)).2 ⟨e, List.mem_cons_self .., rfl⟩
     have hz : (leftOf (L.map (ent mk vk)).toArray (dn.map (·.2.2)).toArray).toList = [] := by rw [← List.length_eq_zero_iff, Array.length_toList]; exact h0
     rw [hz] at this
     cases this
   exact RW.actV hl (semV_run hrun) (hover hnil)
 · obtain ⟨e, he, rfl⟩ := (hlft x).1 hx
   obtain ⟨s, t, rfl⟩ := List.append_of_mem he
   have hseen : ((dn.map (·.2.2)).toArray.push (ent mk vk e).born) = ((dn ++ [e]).map (·.2.2)).toArray := by simp [ent]
   rw [hseen] at hrun
   refine RW.actV hl (semV_run hrun) (hstep e (s ++ t) List.perm_middle _ ?_)
   rcases hw1 with rfl | rfl
   · exact H.put j hj _
   · exact H.draw.put j hj _
theorem RW.mapEntry {q since : Nat} {dn : List (α × β × Nat)} {e : α × β × Nat} (hl : look P n ops l σ = some (κ, semV (Instr.entry (.pointer (some ⟨q, 0, none⟩))), d, r)) (H : Hp w0 S O M W G w) (i : Nat) (hm : M[i]? = some (b, mapO mk vk L c))
 (j : Nat) (hj : M[j]? = some (q, iterO b since (dn ++ [e]) c)) (he : e ∈ L) (hn : (L.map (·.2.2)).Nodup)
 (h : RW P ops n ds K r (putO d (.tuple #[mk e.1, vk e.2.1]) σ) w) : RW P ops n ds K l σ w := by
 have hb := (H.own _ (List.mem_of_getElem? hm)).1
 have hlt := (Array.getElem?_eq_some_iff.1 hb).1
 have hr := (H.own _ (List.mem_of_getElem? hj)).1
 have hlr := (Array.getElem?_eq_some_iff.1 hr).1
 have hseen : ((dn ++ [e]).map (·.2.2)).toArray = ((dn.map (·.2.2)).toArray.push (ent mk vk e).born) := by simp [ent]
 exact RW.readS hl (fun w' hx => semV_run (entry_run (e := ent mk vk e) (seen := (dn.map (·.2.2)).toArray) (by rw [Below.block hx q hlr, ← hseen]; exact hr) (by rw [Below.block hx b hlt]; exact hb) (by simpa using List.mem_map.2 ⟨e, he, rfl⟩) (by simpa [ent, Function.comp_def] using hn))) h
end
def zeroE (P : Program) (E : TypeId) : Option Value := match P.info? E with
 | some i => i.zero
 | none => none
theorem zeroE_run {P : Program} {E : TypeId} {z : Value} (h : zeroE P E = some z) (w : World) : (zeroValue E).run P w = .ok z w := by
 unfold zeroE at h
 split at h
 · rename_i i hi
   simp [zeroValue, typeInfo, hi, h]
 · cases h
structure MOk {α β : Type} (L : List (α × β × Nat)) (c : Nat) : Prop where
 keys : (L.map (·.1)).Nodup
 borns : (L.map (·.2.2)).Nodup
 old : ∀ x ∈ L, x.2.2 < c
theorem MOk.nil {α β : Type} : MOk ([] : List (α × β × Nat)) 0 := ⟨List.nodup_nil, List.nodup_nil, fun x h => by cases h⟩
section
variable {α β : Type} [DecidableEq α]
theorem mfind_none {x : α} {L : List (α × β × Nat)} : mfind x L = none ↔ x ∉ L.map (·.1) := by
 induction L with
 | nil => simp [mfind]
 | cons e l ih =>
  simp only [mfind, List.map_cons, List.mem_cons, not_or]
  by_cases he : e.1 = x
  · simp [he]
  · rw [if_neg he, ih]
    exact ⟨fun h => ⟨fun hx => he hx.symm, h⟩, fun h => h.2⟩
theorem mset_keys (x : α) (v : β) (c : Nat) : ∀ (L : List (α × β × Nat)), (mset x v c L).map (·.1) = if x ∈ L.map (·.1) then L.map (·.1) else L.map (·.1) ++ [x]
 | [] => by simp [mset]
 | e :: l => by
  simp only [mset, List.map_cons, List.mem_cons]
  by_cases he : e.1 = x
  · simp [he]
  · have hx : ¬ x = e.1 := fun h => he h.symm
    rw [if_neg he]
    simp only [List.map_cons, mset_keys x v c l, hx, false_or]
    split <;> rfl
theorem mset_borns (x : α) (v : β) (c : Nat) : ∀ (L : List (α × β × Nat)), (mset x v c L).map (·.2.2) = if x ∈ L.map (·.1) then L.map (·.2.2) else L.map (·.2.2) ++ [c]
 | [] => by simp [mset]
 | e :: l => by
  simp only [mset, List.map_cons, List.mem_cons]
  by_cases he : e.1 = x
  · simp [he]
  · have hx : ¬ x = e.1 := fun h => he h.symm
    rw [if_neg he]
    simp only [List.map_cons, mset_borns x v c l, hx, false_or]
    split <;> rfl
theorem mclk_eq (x : α) (c : Nat) (L : List (α × β × Nat)) : mclk x c L = if x ∈ L.map (·.1) then c else c + 1 := by
 unfold mclk
 cases h : mfind x L with
 | none => simp [mfind_none.1 h]
 | some v =>
  have : x ∈ L.map (·.1) := by
   refine Classical.byContradiction fun hn => ?_
   rw [mfind_none.2 hn] at h
   cases h
  simp [this]
theorem MOk.set {L : List (α × β × Nat)} {c : Nat} (h : MOk L c) (x : α) (v : β) : MOk (mset x v c L) (mclk x c L) := by
 rw [mclk_eq]
 have ho : ∀ b ∈ L.map (·.2.2), b < c := fun b hb => by obtain ⟨e, he, rfl⟩ := List.mem_map.1 hb; exact h.old e he
 refine ⟨?_, ?_, fun e he => ?_⟩
 · rw [mset_keys]
   split
   · exact h.keys
   · exact List.nodup_append.2 ⟨h.keys, by simp, fun a ha b hb => by simp at hb; subst hb; intro e; subst e; contradiction⟩
 · rw [mset_borns]
   split
   · exact h.borns
   · exact List.nodup_append.2 ⟨h.borns, by simp, fun a ha b hb => by simp at hb; subst hb; have := ho a ha; omega⟩
 · have hb : e.2.2 ∈ (mset x v c L).map (·.2.2) := List.mem_map.2 ⟨e, he, rfl⟩
   rw [mset_borns] at hb
   split at hb <;> rename_i hx
   · rw [if_pos hx]; exact ho _ hb
   · rw [if_neg hx]
     rcases List.mem_append.1 hb with hb | hb
     · have := ho _ hb; omega
     · simp at hb; omega
theorem mdel_sub (x : α) : ∀ (L : List (α × β × Nat)), (mdel x L).Sublist L
 | [] => .slnil
 | e :: l => by
  simp only [mdel]
  split
  · exact List.sublist_cons_self _ _
  · exact (mdel_sub x l).cons_cons _
theorem MOk.del {L : List (α × β × Nat)} {c : Nat} (h : MOk L c) (x : α) : MOk (mdel x L) c :=
 ⟨((mdel_sub x L).map _).nodup h.keys, ((mdel_sub x L).map _).nodup h.borns, fun e he => h.old e ((mdel_sub x L).subset he)⟩
theorem mfind_mem {x : α} {v : β} : ∀ {L : List (α × β × Nat)}, mfind x L = some v → ∃ e ∈ L, e.1 = x ∧ e.2.1 = v
 | e :: l, h => by
  simp only [mfind] at h
  split at h
  · rename_i he
    cases h
    exact ⟨e, List.mem_cons_self .., he, rfl⟩
  · obtain ⟨e', h1, h2⟩ := mfind_mem h
    exact ⟨e', List.mem_cons_of_mem _ h1, h2⟩
theorem mfind_set (x y : α) (v : β) (c : Nat) : ∀ (L : List (α × β × Nat)), mfind y (mset x v c L) = if x = y then some v else mfind y L
 | [] => by simp [mset, mfind]
 | e :: l => by
  simp only [mset]
  by_cases he : e.1 = x
  · rw [if_pos he]
    simp only [mfind]
    by_cases hy : x = y
    · simp [hy]
    · have : ¬ e.1 = y := fun h => hy (he ▸ h)
      simp [hy, this]
  · rw [if_neg he]
    simp only [mfind, mfind_set x y v c l]
    by_cases hy : e.1 = y
    · have : ¬ x = y := fun h => he (hy.trans h.symm)
      simp [hy, this]
    · simp [hy]
theorem mfind_del (x y : α) : ∀ {L : List (α × β × Nat)}, (L.map (·.1)).Nodup → mfind y (mdel x L) = if x = y then none else mfind y L
 | [], _ => by simp [mdel, mfind]
 | e :: l, hn => by
  have hn' : e.1 ∉ l.map (·.1) ∧ (l.map (·.1)).Nodup := List.nodup_cons.1 hn
  simp only [mdel]
  by_cases he : e.1 = x
  · rw [if_pos he]
    by_cases hy : x = y
    · rw [if_pos hy]
      exact mfind_none.2 (hy ▸ he ▸ hn'.1)
    · have : ¬ e.1 = y := fun h => hy (he ▸ h)
      simp [mfind, hy, this]
  · rw [if_neg he]
    simp only [mfind, mfind_del x y hn'.2]
    by_cases hy : e.1 = y
    · have : ¬ x = y := fun h => he (hy.trans h.symm)
      simp [hy, this]
    · simp [hy]
theorem mset_len (x : α) (v : β) (c : Nat) : ∀ (L : List (α × β × Nat)), (mset x v c L).length = if (mfind x L).isSome then L.length else L.length + 1
 | [] => by simp [mset, mfind]
 | e :: l => by
  simp only [mset, mfind]
  split
  · simp
  · simp only [List.length_cons, mset_len x v c l]
    split <;> rfl
end
theorem Hp.viewF {w0 w : World} {S : Nat → Prop} {O : List Nat} {M : Heap} {W : List OwnS} {G : List Fact} (H : Hp w0 S O M W G w) {F : Fact} (i : Nat) (h : G[i]? = some F) : F.p (fun _ => True) w :=
 F.step (H.fact i h) fun _ _ _ => ⟨trivial, rfl⟩
end Go.BX

/-
 THE ENGINE's further steps for maps and pointers: a lookup whose outcome is known; a clone of a map; two pointers held against each other; a slice read as an array.
 No condition.
-/
namespace Go.BX
open Go.RowKit (Below)
section
variable {α β : Type} {P : Program} {n : Nat} {ds : List Deferred} {ops : Array Oper} {K : Env → World → Prop} {l r : List (Nat × Kd)} {σ : Env} {w : World} {κ : Kd} {d : Option Tmp}
variable {w0 : World} {S : Nat → Prop} {O : List Nat} {M M' : Heap} {W : List OwnS} {G : List Fact} {mk : α → Value} {vk : β → Value} {L : List (α × β × Nat)} {b c : Nat} {T : TypeId}
theorem RW.mapGetF [DecidableEq α] {Kt E : TypeId} {z : β} (x : α) (ok : Bool) (q : Option β) {v : Value} (hl : look P n ops l σ = some (κ, semV (Instr.lookup T (.map (some b)) (mk x) ok), d, r)) (H : Hp w0 S O M W G w) (i : Nat) (hm : M[i]? = some (b, mapO mk vk L c))
 (hk : KeyOk P Kt mk) (hT : P.underlying T = some (.map Kt E)) (hz : ∀ w, (zeroValue E).run P w = .ok (vk z) w) (hf : mfind x L = q) (hv : (if ok then .tuple #[vk (q.getD z), .bool q.isSome] else vk (q.getD z)) = v)
 (h : RW P ops n ds K r (putO d v σ) w) : RW P ops n ds K l σ w :=
 RW.mapGet x ok hl H i hm hk hT hz (by rw [hf, hv]; exact h)
theorem clone_run {b : Nat} {es : Array MapEntry} {clock : Nat} (t : TypeId) (hb : w.heap[b]? = some (.map es clock)) :
 (Extern.MapsClone.clone #[.iface t (.map (some b))]).run P w = .ok (.iface t (.map (some w.heap.size))) (w.alloc (.map es clock)) := by
 have e : Extern.MapsClone.clone #[.iface t (.map (some b))] = (getObj b >>= fun o => match o with
  | .map entries clock => (newObj (.map entries clock) >>= fun n => pure (.iface t (.map (some n))))
  | _ => stuck "maps.clone: a map expected") := rfl
 rw [e]
 simp [getObj_run hb, Result.andThen, go_sem]
theorem RW.cloneM {f : FuncId} {fn : Func} {t : TypeId} (hl : look P n ops l σ = some (κ, callFunc f #[.iface t (.map (some b))], d, r)) (hκ : κ ≠ .qui) (hfn : P.funcs[f]? = some fn) (hname : (fn.name == "runtime.NumGoroutine") = false)
 (hbd : fn.body.isNone = true) (hn : Extern.findNext fn = none) (he : Extern.find fn = some Extern.MapsClone.clone) (H : Hp w0 S O M W G w) (i : Nat) (hm : M[i]? = some (b, mapO mk vk L c))
 (h : ∀ q w', Hp w0 S O ((q, mapO mk vk L c) :: M) W G w' → RW P ops n ds K r (putO d (.iface t (.map (some q))) σ) w') : RW P ops n ds K l σ w := by
 have hb := (H.own _ (List.mem_of_getElem? hm)).1
 refine RW.makeS hl hκ (w1 := { w with heap := w.heap.push (mapO mk vk L c) }) ?_ ⟨rfl, rfl, rfl, by simp, fun k hk => by
  show (w.heap.push _)[k]? = _
  rw [Array.getElem?_push, if_neg (by omega)]⟩ (h _ _ (H.alloc _))
 rw [run_callFunc_extern hfn hname hbd hn he, clone_run t hb]
 rfl
def sizedE (P : Program) (E : TypeId) : Bool := match P.info? E with
 | some i => !Nat.beq i.size 0
 | none => false
theorem RW.ptrEq {E : TypeId} {p q : Nat} {cp cq : Array Value} {tp tq : TypeId} (hl : look P n ops l σ = some (κ, semV (binOp .eql T (.pointer (some ⟨q, 0, none⟩)) (.pointer (some ⟨p, 0, none⟩))), d, r)) (hT : P.underlying T = some (.pointer E)) (hE : sizedE P E = true)
 (H : Hp w0 S O M W G w) (hp : (p, Obj.cells cp tp (0, 0)) ∈ M) (hq : (q, Obj.cells cq tq (0, 0)) ∈ M) (h : RW P ops n ds K r (putO d (.bool (decide (q = p))) σ) w) : RW P ops n ds K l σ w := by
 obtain ⟨ti, hE, hsz⟩ : ∃ ti, P.info? E = some ti ∧ ti.size ≠ 0 := by
  unfold sizedE at hE
  split at hE
  · rename_i i hi
    exact ⟨i, hi, fun e => by rw [e] at hE; cases hE⟩
  · cases hE
 have a := (H.own _ hp).1
 have b := (H.own _ hq).1
 refine RW.readS hl (fun w' he => semV_run ?_) h
 by_cases hqp : q = p
 · subst hqp
   rw [run_eql_ptr_same w' _ hT hE]
   simp
 · rw [run_eql_ptr_other w' hT hE hsz (fun e => hqp (by injection e)) (he.block b) (he.block a)]
   simp [hqp]
theorem arrayAt_run {E : TypeId} {N : Nat} {a : Option Addr} {len cap : Nat} (hT : P.underlying T = some (.array N E)) (hle : N ≤ len) : (Instr.arrayAt T (.slice a len cap)).run P w = .ok (.pointer a) w := by
 simp [Instr.arrayAt, run_underlying hT, Nat.not_lt.2 hle]
theorem RW.arrAt {E : TypeId} {N : Nat} {a : Option Addr} {len cap : Nat} (hl : look P n ops l σ = some (κ, semV (Instr.arrayAt T (.slice a len cap)), d, r)) (hT : P.underlying T = some (.array N E)) (hle : N ≤ len)
 (h : RW P ops n ds K r (putO d (.pointer a) σ) w) : RW P ops n ds K l σ w :=
 RW.readS hl (fun _ _ => semV_run (arrayAt_run hT hle)) h
end
theorem bytes_cells {S : Nat → Prop} {w : World} {a : Option Addr} {c N : Nat} {xs : List (BitVec 8)} (h : (Shape.slice (Shape.bv .u8 8)).rep S w [.slice a xs.length c] xs) (hN : N ≤ xs.length) (hN0 : 0 < N) :
 ∃ b o, a = some ⟨b, o, none⟩ ∧ Cells w b o ((List.range N).map fun i => .int .u8 (((xs.getD i 0#8).toNat : Nat) : Int)) := by
 obtain ⟨-, -, -, hE⟩ := Shape.elems_of h
 obtain ⟨b, o, es, ha, -, -, -⟩ := hE 0 xs[0] (List.getElem?_eq_getElem (by omega))
 refine ⟨b, o, ha, fun j v hj => ?_⟩
 have hjN : j < N := by
  have := (List.getElem?_eq_some_iff.1 hj).1
  simpa using this
 obtain ⟨b', o', es', ha', -, hc, hr⟩ := hE j xs[j] (List.getElem?_eq_getElem (by omega))
 rw [ha] at ha'
 injection ha' with ha'
 injection ha' with h1 h2
 subst h1
 subst h2
 obtain rfl := hr
 have := hc 0 _ rfl
 rw [List.getElem?_map, List.getElem?_range hjN] at hj
 simp only [Option.map_some, Option.some.injEq] at hj
 rw [← hj]
 simpa [Shape.bv, List.getD_eq_getElem?_getD, List.getElem?_eq_getElem (show j < xs.length by omega)] using this
end Go.BX

/-
 THE ENGINE: shifts by an amount that is known at run time only.
 No condition.
-/
namespace Go.BX
theorem shift_run {P : Program} {w : World} {k yk : IntKind} {a y : Int} {j : Nat} (hy : y = (j : Int)) (hj : j ≤ k.bits) : (Op.shift .shl k a yk y).run P w = .ok (.int k (k.wrap (a * 2 ^ j))) w ∧ (Op.shift .shr k a yk y).run P w = .ok (.int k (a.fdiv (2 ^ j))) w := by
 subst hy
 have e : min (Int.toNat (j : Int)) k.bits = j := by
  rw [Int.toNat_natCast]; exact Nat.min_eq_left hj
 constructor
 · unfold Op.shift
   rw [if_neg (by omega)]
   simp only [e]
   rfl
 · unfold Op.shift
   rw [if_neg (by omega)]
   simp only [e]
   rfl
theorem shl_run8 {P : Program} {w : World} {yk : IntKind} {a y : Int} {x : BitVec 8} {j : Nat} (hx : BitVec.ofInt 8 a = x) (hy : y = (j : Int)) (hj : j ≤ 8) : (Op.shift .shl .u8 a yk y).run P w = .ok (.int .u8 (((x <<< j).toNat : Nat) : Int)) w := by
 rw [(shift_run (k := .u8) hy (show j ≤ IntKind.bits .u8 from hj)).1, bv_shl8 j hx]
end Go.BX

/-
 THE ENGINE: slices.Clip, and append to a clipped row: always a new one.
 No condition.
-/
namespace Go.BX
open Go.RowKit (Below)
section
variable {P : Program} {n : Nat} {ds : List Deferred} {ops : Array Oper} {K : Env → World → Prop} {l r : List (Nat × Kd)} {σ : Env} {w w1 : World} {κ : Kd} {d : Option Tmp}
variable {w0 : World} {S : Nat → Prop} {O : List Nat} {M : Heap} {W : List OwnS} {G : List Fact}
theorem clip_run {T e : TypeId} {m : Nat} (hT : sliceE P T = some (e, m)) {a : Option Addr} {len cap : Nat} {k1 k2 : IntKind} {t1 t2 : Int} (h1 : t1 = (len : Int)) (h2 : t2 = (len : Int)) (hlc : len ≤ cap) :
 (Instr.sliceAt T (.slice a len cap) none (some (.int k1 t1)) (some (.int k2 t2))).run P w = .ok (.slice a len len) w := by
 subst h1 h2
 obtain ⟨hu, i, hti, hm⟩ := sliceE_spec hT
 have b : ∀ (k : IntKind) (code : BoundsCode), (Instr.sliceBound (.int k (len : Int)) cap code).run P w = .ok len w := fun k code => sliceBound_run hlc
 have c : ∀ (k : IntKind) (code : BoundsCode), (Instr.sliceBound (.int k (len : Int)) len code).run P w = .ok len w := fun k code => sliceBound_run (Nat.le_refl _)
 cases a <;> simp [Instr.sliceAt, Instr.slice, Instr.sliceBounds, run_underlying hu, sizeOf, typeInfo, hti, b, c, Addr.add]
theorem RW.clip {T e : TypeId} {α : Type} {sh : Shape α} {a : Option Addr} {len cap : Nat} {xs : List α} {k1 k2 : IntKind} {t1 t2 : Int} (hl : look P n ops l σ = some (κ, semV (Instr.sliceAt T (.slice a len cap) none (some (.int k1 t1)) (some (.int k2 t2))), d, r))
 (hT : sliceE P T = some (e, sh.size)) (H : Hp w0 S O M W G w) (g : Nat) (hg : G[g]? = some (Rp sh.slice [.slice a len cap] xs)) (h1 : t1 = (len : Int)) (h2 : t2 = (len : Int))
 (h : Hp w0 S O M W (Rp sh.slice [.slice a len len] xs :: G) w → RW P ops n ds K r (putO d (.slice a len len) σ) w) : RW P ops n ds K l σ w := by
 obtain ⟨rfl, hyc, hycm, hE⟩ := Shape.elems_of (H.rp g hg)
 exact RW.readS hl (fun w' _ => semV_run (clip_run (w := w') hT h1 h2 hyc)) (h (H.add ⟨a, xs.length, rfl, Nat.le_refl _, by omega, hE⟩))
theorem clipAt_run {T e : TypeId} {m : Nat} (hT : sliceE P T = some (e, m)) {a : Option Addr} {len cap k : Nat} {k1 k2 : IntKind} {t1 t2 : Int} (h1 : t1 = (k : Int)) (h2 : t2 = (k : Int)) (hlc : k ≤ cap) :
 (Instr.sliceAt T (.slice a len cap) none (some (.int k1 t1)) (some (.int k2 t2))).run P w = .ok (.slice a k k) w := by
 subst h1 h2
 obtain ⟨hu, i, hti, hm⟩ := sliceE_spec hT
 have b : ∀ (q : IntKind) (code : BoundsCode), (Instr.sliceBound (.int q (k : Int)) cap code).run P w = .ok k w := fun q code => sliceBound_run hlc
 have c : ∀ (q : IntKind) (code : BoundsCode), (Instr.sliceBound (.int q (k : Int)) k code).run P w = .ok k w := fun q code => sliceBound_run (Nat.le_refl _)
 cases a <;> simp [Instr.sliceAt, Instr.slice, Instr.sliceBounds, run_underlying hu, sizeOf, typeInfo, hti, b, c, Addr.add]
theorem RW.clipAt {T e : TypeId} {α : Type} {sh : Shape α} {a : Option Addr} {len cap k : Nat} {xs : List α} {k1 k2 : IntKind} {t1 t2 : Int} (hl : look P n ops l σ = some (κ, semV (Instr.sliceAt T (.slice a len cap) none (some (.int k1 t1)) (some (.int k2 t2))), d, r))
 (hT : sliceE P T = some (e, sh.size)) (H : Hp w0 S O M W G w) (g : Nat) (hg : G[g]? = some (Rp sh.slice [.slice a len cap] xs)) (h1 : t1 = (k : Int)) (h2 : t2 = (k : Int)) (hk : k ≤ len)
 (h : Hp w0 S O M W (Rp sh.slice [.slice a k k] (xs.take k) :: G) w → RW P ops n ds K r (putO d (.slice a k k) σ) w) : RW P ops n ds K l σ w := by
 obtain ⟨rfl, hyc, hycm, hE⟩ := Shape.elems_of (H.rp g hg)
 refine RW.readS hl (fun w' _ => semV_run (clipAt_run (w := w') hT h1 h2 (Nat.le_trans hk hyc))) (h (H.add ⟨a, k, by rw [List.length_take, Nat.min_eq_left hk], by rw [List.length_take, Nat.min_eq_left hk]; exact Nat.le_refl _, by omega, fun i x hi => hE i x ?_⟩))
 rw [List.getElem?_take] at hi
 split at hi
 · exact hi
 · cases hi
theorem RW.appendC {T ty e : TypeId} {m by_ : Nat} {α : Type} {sh : Shape α} {a1 a2 : Option Addr} {l1 l2 c2 : Nat} {xs ys zs : List α} (hl : look P n ops l σ = some (κ, semV (Builtin.append_ #[T, T] ty #[.slice a1 l1 l1, .slice a2 l2 c2]), d, r)) (hκ : κ ≠ .qui)
 (hT : elemE P T = some (e, m, by_, true)) (hm : m = sh.size) (H : Hp w0 S O M W G w) (g1 : Nat) (hg1 : G[g1]? = some (Rp sh.slice [.slice a1 l1 l1] xs)) (g : Nat) (hg : G[g]? = some (Rp sh.slice [.slice a2 l2 c2] ys)) (hy : 0 < ys.length)
 (hz : xs ++ ys = zs) (hby : zs.length * by_ ≤ 140737488355328 ∧ zs.length ≤ 9223372036854775807)
 (h : ∀ a c w', Hp w0 S O M W (Rp sh.slice [.slice a zs.length c] zs :: G) w' → RW P ops n ds K r (putO d (.slice a zs.length c) σ) w') : RW P ops n ds K l σ w := by
 subst hm
 obtain ⟨rfl, _, _, p⟩ := Shape.elems_of (H.rp g1 hg1)
 obtain ⟨rfl, hyc, hycm, hE⟩ := Shape.elems_of (H.rp g hg)
 obtain ⟨hu, ti, z, hti, f, hts, hb, hzs⟩ := elemE_spec hT
 have hne : ys ≠ [] := List.length_pos_iff.1 hy
 obtain ⟨b, o, news, rfl, hS, hnl, hnc, _, hnr⟩ := elems_flat hE hne
 have hn : ∀ q u, news[q]? = some u → w.cell? ((⟨b, o, none⟩ : Addr).add q) = some u := fun q u hq => by rw [addr_lit]; exact hnc q u hq
 have hlen : zs.length = xs.length + ys.length := by rw [← hz, List.length_append]
 -- what is old
 obtain ⟨olds, hol, hold, hor, hrun⟩ : ∃ olds : List Value, olds.length = xs.length * sh.size ∧ (∀ v ∈ olds, v.oneCell' = true) ∧ (∀ i x, xs[i]? = some x → sh.rep (Av S w0 O (idsOf M W)) w ((olds.drop (i * sh.size)).take sh.size) x) ∧
  ∃ q cc, (Builtin.append_ #[T, T] ty #[.slice a1 xs.length xs.length, .slice (some ⟨b, o, none⟩) ys.length c2]).run P w = .ok (.slice (some ⟨w.heap.size, 0, none⟩) (xs.length + ys.length) cc) (w.drew.alloc (.cells (olds.toArray ++ news.toArray ++ q) e)) ∧ xs.length + ys.length ≤ cc ∧ cc ≤ maxLen := by
  by_cases hx : xs = []
  · subst hx
    refine ⟨[], by simp, (fun v hv => by cases hv), (fun i x hi => by simp at hi), ?_⟩
    cases a1 with
    | none =>
     obtain ⟨q, cc, hr, B, C⟩ := append_new_run (ty := ty) (w := w) (c := c2) hT (.inl rfl) hy hnl hnc (by unfold maxLen at hycm; omega) (by rw [hlen] at hby; simp only [List.length_nil, Nat.zero_add] at hby; exact hby.1)
     exact ⟨q, cc, by simpa using hr, by simpa using B, C⟩
    | some A =>
     have hg := run_append_grow (P := P) w T ty e ti z hu hti f A 0 0 [] (by simp) (fun j v hj => by simp at hj) ⟨b, o, none⟩ ys.length c2 news (by rw [hts]; exact hnl) hn (by omega) (by omega)
      (by rw [hb]; exact growslice_fits (by omega) (by rw [hlen] at hby; simpa using hby.1))
     exact ⟨_, _, by simpa using hg, by simpa using grownCap_ge w (0 + ys.length) 0 e, grownCap_le_maxLen _ _ _ _ (by unfold maxLen; omega)⟩
  · obtain ⟨s, t, olds, rfl, _, hol, hoc, y, hor⟩ := elems_flat p hx
    have ho : ∀ q u, olds[q]? = some u → w.cell? ((⟨s, t, none⟩ : Addr).add q) = some u := fun q u hq => by rw [addr_lit]; exact hoc q u hq
    have hg := run_append_grow (P := P) w T ty e ti z hu hti f ⟨s, t, none⟩ xs.length xs.length olds (by rw [hts]; exact hol) ho ⟨b, o, none⟩ ys.length c2 news (by rw [hts]; exact hnl) hn (by omega) (by omega)
     (by rw [hb]; exact growslice_fits (by omega) (by rw [← hlen]; exact hby.1))
    exact ⟨olds, hol, y, hor, _, _, hg, grownCap_ge _ _ _ _, grownCap_le_maxLen _ _ _ _ (by unfold maxLen; omega)⟩
 obtain ⟨q, cc, hr, hcc, hccm⟩ := hrun
 have he : Ext w (w.drew.alloc (.cells (olds.toArray ++ news.toArray ++ q) e)) := ⟨rfl, rfl, rfl, by simp, fun k hk => by
  show (w.drew.heap.push _)[k]? = _
  rw [Array.getElem?_push, if_neg (by show ¬ k = w.heap.size; omega)]; rfl⟩
 have hall := rep_append (cs := olds) (news := news) hol hnl hor hnr
 rw [hz] at hall
 rw [← hlen] at hr hcc
 refine RW.makeS hl hκ (semV_run hr) he (h _ cc _ ((H.ext he).add ⟨_, cc, rfl, hcc, hccm, elems_of_flat (news := olds ++ news) ⟨.inr (.inl H.below.size), fun hid => by have := (H.ids_lt _ hid).1; omega⟩ (by rw [List.length_append, hol, hnl, hlen, Nat.add_mul]; exact Nat.le_refl _) ?_ fun i x hx => sh.step (hall i x hx) fun k hk hlt => ⟨hk, Below.block he k hlt⟩⟩))
 have hblk : (w.drew.alloc (.cells (olds.toArray ++ news.toArray ++ q) e)).heap[w.heap.size]? = some (.cells (olds.toArray ++ news.toArray ++ q) e) := heap_alloc_new w.drew _
 intro j v hj
 refine (Cells.of_block hblk) j v ?_
 simp only [Array.toList_append]
 rw [List.getElem?_append_left (by have := (List.getElem?_eq_some_iff.1 hj).1; simpa using this)]; exact hj
end
end Go.BX

/-
 THE ENGINE: two facts of what a callee leaves.
 No condition.
-/
namespace Go.BX
theorem Hp.addN2 {w0 w w' : World} {S : Nat → Prop} {O : List Nat} {M : Heap} {W : List OwnS} {G : List Fact} (H : Hp w0 S O M W G w) (he : Ext w w') {F F2 : Fact} (h : F.p (Nw (Av S w0 O (idsOf M W)) w) w') (h2 : F2.p (Nw (Av S w0 O (idsOf M W)) w) w') : Hp w0 S O M W (F :: F2 :: G) w' :=
 (H.addN he h2).add ((H.addN he h).fact 0 rfl)
end Go.BX

/-
 THE ENGINE's FACTS of any make: what holds of the world by blocks that nobody writes.
 No condition.
-/
namespace Go.BX
def Fz (Q : World → Prop) : Fact where
 p := fun S w => ∃ B : Nat → Prop, Q w ∧ (∀ b, B b → S b ∧ b < w.heap.size) ∧ ∀ w' : World, (∀ b, B b → w'.heap[b]? = w.heap[b]?) → Q w'
 step := fun {S S' w w'} h hs => by
  obtain ⟨B, h1, h2, h3⟩ := h
  have e : ∀ b, B b → w'.heap[b]? = w.heap[b]? := fun b hb => (hs b (h2 b hb).1 (h2 b hb).2).2
  refine ⟨B, h3 w' e, fun b hb => ⟨(hs b (h2 b hb).1 (h2 b hb).2).1, ?_⟩, fun w'' h => h3 w'' fun b hb => (h b hb).trans (e b hb)⟩
  have h4 := e b hb
  rw [Array.getElem?_eq_getElem (h2 b hb).2] at h4
  exact (Array.getElem?_eq_some_iff.1 h4).1
theorem Fz.of {Q : World → Prop} {S : Nat → Prop} {w : World} (h : (Fz Q).p S w) : Q w := by
 obtain ⟨B, a, -, -⟩ := h
 exact a
section
variable {P : Program} {n : Nat} {ds : List Deferred} {ops : Array Oper} {K : Env → World → Prop} {l r : List (Nat × Kd)} {σ : Env} {w : World} {κ : Kd} {d : Option Tmp} {α β : Type} {mk : α → Value} {vk : β → Value} {b : Nat} {L : List (α × β × Nat)} {c : Nat} {T : TypeId}
end
end Go.BX

/-
 THE ENGINE's slices.Delete: an append into the same block, and a clear, on a block of the call's own.
 No condition.
-/
namespace Go.BX
open Go.RowKit (Below)
section
variable {P : Program} {n : Nat} {ds : List Deferred} {ops : Array Oper} {K : Env → World → Prop} {l r : List (Nat × Kd)} {σ : Env} {w : World} {κ : Kd} {d : Option Tmp}
variable {w0 : World} {S : Nat → Prop} {O : List Nat} {M : Heap} {W : List OwnS} {G : List Fact}
end
end Go.BX

/-
 THE ENGINE's SORT: a row of the call's own, as the shelf's sort wants it, and as it leaves it.
 No condition.
-/
namespace Go.BX
open Go.RowKit (Below)
open Go.Sort Go.Proofs
section
variable {α : Type} [Inhabited α] {w0 w : World} {S : Nat → Prop} {O : List Nat} {M : Heap} {W : List OwnS} {G : List Fact} {sh : Shape α} {enc : α → List Value} {k : Nat} {T : TypeId} {b cap : Nat} {xs : List α}
theorem row_cell {c : Array Value} (hk : sh.size = k) (h0 : 0 < k) (hE : ∀ x cs, sh.rep S w cs x → cs = enc x) (hs : EsP sh S w c.toList xs) {j : Nat} (hj : j < xs.length * k) (hl : xs.length * k ≤ c.size) :
 c[j]? = some ((enc xs[j / k]!)[j % k]!) := by
 have hd : j / k < xs.length := Nat.div_lt_of_lt_mul (by rw [Nat.mul_comm]; exact hj)
 have hm : j % k < k := Nat.mod_lt _ h0
 have hr := hs (j / k) xs[j / k] (List.getElem?_eq_getElem hd)
 have he := hE _ _ hr
 rw [hk] at he
 have hlen := sh.len hr
 rw [hk] at hlen
 have a : ((c.toList.drop (j / k * k)).take k)[j % k]? = c[j]? := by
  rw [List.getElem?_take, if_pos hm, List.getElem?_drop, Nat.div_add_mod']
  simp
 rw [← a, he]
 have hlt : j % k < (enc xs[j / k]).length := by rw [← he, hlen]; exact hm
 rw [getElem!_pos xs (j / k) hd, getElem!_pos _ (j % k) hlt, List.getElem?_eq_getElem hlt]
theorem Hp.holdsK (hk : sh.size = k) (h0 : 0 < k) (hE : ∀ (S : Nat → Prop) (w : World) x cs, sh.rep S w cs x → cs = enc x) (H : Hp w0 S O M (⟨sh, T, .slice (some ⟨b, 0, none⟩) xs.length cap, xs⟩ :: W) G w) (hp : 0 < xs.length) :
 HoldsK enc k w b 0 xs.toArray ∧ b < w.heap.size := by
 obtain ⟨b', c, hb, -, hcs, a, _, _, HR⟩ := H.toRaw1 hp
 obtain ⟨rfl⟩ : b = b' := by simpa using hb
 have hh := (HR.own _ (List.mem_cons_self ..)).1
 have hes := HR.es 0 rfl
 refine ⟨fun j hj => ?_, (Array.getElem?_eq_some_iff.1 hh).1⟩
 rw [size_flatK, List.size_toArray] at hj
 have hl : xs.length * k ≤ c.size := by rw [hcs, hk]; exact Nat.mul_le_mul_right _ a
 have hc := row_cell hk h0 (hE _ _) hes hj hl
 have hf := get_flatK enc k xs.toArray j (by rw [List.size_toArray]; exact hj)
 refine ⟨?_, ?_⟩
 · rw [cell_of_row w b (0 + j) c T (0, 0) hh, Nat.zero_add, hc, id, hf]
   simp
 · simp only [World.frozen?] at *
   rw [hh]
   simp
theorem Hp.sortedK (hk : sh.size = k) (h0 : 0 < k) (hE : ∀ (S : Nat → Prop) (w : World) x cs, sh.rep S w cs x → cs = enc x) (hlen : ∀ x, (enc x).length = k) (H : Hp w0 S O M (⟨sh, T, .slice (some ⟨b, 0, none⟩) xs.length cap, xs⟩ :: W) G w) (hp : 0 < xs.length)
 {d' : Array α} {n : Nat} {os : Array Obj} (hd : d'.toList.Perm xs) :
 Hp w0 S O M (⟨sh, T, .slice (some ⟨b, 0, none⟩) xs.length cap, d'.toList⟩ :: W) G (sortWorldK enc k w b 0 n d' os) := by
 obtain ⟨b', c, hb, -, hcs, d, g, _, HR⟩ := H.toRaw1 hp
 obtain ⟨rfl⟩ : b = b' := by simpa using hb
 have hh := (HR.own _ (List.mem_cons_self ..)).1
 have hes := HR.es 0 rfl
 have hbl := (Array.getElem?_eq_some_iff.1 hh).1
 have hsz : d'.size = xs.length := by have := hd.length_eq; simpa using this
 have hl : xs.length * k ≤ c.size := by rw [hcs, hk]; exact Nat.mul_le_mul_right _ d
 let c' : Array Value := putCells id 0 (flatK enc k d') c
 have hcl : c'.size = c.size := by simp [c', putCells]
 have hget : ∀ j, j < xs.length * k → c'[j]? = some ((enc d'[j / k]!)[j % k]!) := fun j hj => by
  have hjc : j < c.size := by omega
  have hf := get_flatK enc k d' j (by rw [hsz]; exact hj)
  simp only [c', putCells, Array.getElem?_mapIdx, Array.getElem?_eq_getElem hjc, Option.map_some, size_flatK, hsz]
  rw [if_pos ⟨Nat.zero_le _, by omega⟩, Nat.sub_zero, hf, id]
 have HP := HR.put 0 rfl (.cells c' T (0, 0))
 have hext : Ext { w with heap := w.heap.setIfInBounds b (.cells c' T (0, 0)) } (sortWorldK enc k w b 0 n d' os) := by
  have hheap : (sortWorldK enc k w b 0 n d' os).heap = w.heap.setIfInBounds b (.cells c' T (0, 0)) ++ os := by
   show (w.heap.modify b _) ++ os = _
   congr 1
   apply Array.ext_getElem?
   intro j
   rw [Array.getElem?_modify, Array.getElem?_setIfInBounds]
   by_cases hj : b = j
   · subst hj
     rw [if_pos rfl, if_pos rfl, if_pos hbl, hh]
     rfl
   · rw [if_neg hj, if_neg hj]
  refine ⟨rfl, rfl, rfl, ?_, fun q hq => ?_⟩
  · rw [hheap]; simp
  · rw [hheap, Array.getElem?_append_left hq]
 have HE := HP.ext hext
 simp only [List.set_cons_zero] at HE
 have hrow : ∀ i x, d'.toList[i]? = some x → (c'.toList.drop (i * k)).take k = enc x := fun i x hx => by
  have hi := (List.getElem?_eq_some_iff.1 hx).1
  rw [hd.length_eq] at hi
  have hik : i * k + k ≤ xs.length * k := by rw [← Nat.succ_mul]; exact Nat.mul_le_mul_right _ hi
  have hx! : d'[i]! = x := by
   have h' : i < d'.size := by omega
   rw [getElem!_pos d' i h']
   simpa [h'] using hx
  apply List.ext_getElem?
  intro t
  by_cases ht : t < k
  · rw [List.getElem?_take, if_pos ht, List.getElem?_drop]
    have hq := hget (i * k + t) (by omega)
    have a : (i * k + t) / k = i := by rw [Nat.mul_comm, Nat.mul_add_div h0, Nat.div_eq_of_lt ht, Nat.add_zero]
    have l : (i * k + t) % k = t := by rw [Nat.mul_comm, Nat.mul_add_mod, Nat.mod_eq_of_lt ht]
    rw [a, l, hx!] at hq
    have ht' : t < (enc x).length := by rw [hlen]; exact ht
    rw [Array.getElem?_toList, hq, getElem!_pos _ t ht', List.getElem?_eq_getElem ht']
  · rw [List.getElem?_take, if_neg ht, List.getElem?_eq_none (by rw [hlen]; omega)]
 have hrep : ∀ x, x ∈ d'.toList → sh.rep (Av S w0 O (idsOf ((b, .cells c' T (0, 0)) :: M) W)) (sortWorldK enc k w b 0 n d' os) (enc x) x := fun x hx => by
  have e := hd.mem_iff.1 hx
  obtain ⟨i, hi, rfl⟩ := List.mem_iff_getElem.1 e
  have h := HE.es 0 rfl i xs[i] (List.getElem?_eq_getElem hi)
  have := hE _ _ _ _ h
  rw [this] at h
  exact h
 have hes' : EsP sh (Av S w0 O (idsOf ((b, .cells c' T (0, 0)) :: M) W)) (sortWorldK enc k w b 0 n d' os) c'.toList d'.toList := fun i x hx => by
  rw [hk, hrow i x hx]
  exact hrep x (List.mem_of_getElem? hx)
 have hone : ∀ v ∈ c'.toList.take (d'.toList.length * sh.size), v.oneCell' = true := fun v hv => by
  obtain ⟨j, hj, rfl⟩ := List.mem_iff_getElem.1 hv
  have hj' : j < xs.length * k := by
   rw [List.length_take, hd.length_eq, hk] at hj
   omega
  have hjk : j / k < d'.size := by rw [hsz]; exact Nat.div_lt_of_lt_mul (by rw [Nat.mul_comm]; exact hj')
  have hm : j % k < (enc d'[j / k]!).length := by rw [hlen]; exact Nat.mod_lt _ h0
  have hq := hget j hj'
  rw [getElem!_pos _ (j % k) hm] at hq
  have f : (c'.toList.take (d'.toList.length * sh.size))[j] = (enc d'[j / k]!)[j % k] := by
   have a : (c'.toList.take (d'.toList.length * sh.size))[j]? = c'[j]? := by
    rw [List.getElem?_take, if_pos (by rw [hd.length_eq, hk]; exact hj')]
    simp
   rw [hq, List.getElem?_eq_getElem hj] at a
   exact Option.some.inj a
  rw [f]
  refine sh.ones (hrep d'[j / k]! ?_) _ (List.getElem_mem hm)
  rw [getElem!_pos d' (j / k) hjk]
  exact Array.mem_toList_iff.2 (Array.getElem_mem hjk)
 have hfin := (HE.toOwn (sh := sh) (cap := cap) (xs := d'.toList) (by rw [hcl]; exact hcs) (by rw [hd.length_eq]; exact d) g hone hes').facts_sub (G' := G) fun F hF => List.mem_cons_of_mem _ hF
 rw [hd.length_eq] at hfin
 exact hfin
end
theorem Hp.ownAddr {α : Type} {w0 w : World} {S : Nat → Prop} {O : List Nat} {M : Heap} {W : List OwnS} {G : List Fact} {sh : Shape α} {T : TypeId} {a : Option Addr} {len cap : Nat} {xs : List α} (H : Hp w0 S O M (⟨sh, T, .slice a len cap, xs⟩ :: W) G w) (h : 0 < len) : ∃ b, a = some ⟨b, 0, none⟩ := by
 obtain ⟨b, c, h, _⟩ := H.toRaw1 h
 exact ⟨b, h⟩
def Gr (w w' : World) : Prop := ∃ q os, w' = grow (w.drewN q) os
theorem Gr.refl (w : World) : Gr w w := ⟨0, #[], by rw [grow_empty]; rfl⟩
theorem Gr.draw {w a : World} (h : Gr w a) : Gr w { a with drawn := a.drawn + 1 } := by
 obtain ⟨q, os, rfl⟩ := h
 exact ⟨q + 1, os, rfl⟩
theorem Gr.new {w a b : World} {o : Obj} (h : Gr w a) (hq : b = { a with heap := a.heap.push o }) : Gr w b := by
 obtain ⟨q, os, rfl⟩ := h
 subst hq
 refine ⟨q, os.push o, ?_⟩
 simp [grow]
section
variable {P : Program} {n : Nat} {ds : List Deferred} {ops : Array Oper} {K : Env → World → Prop} {l r : List (Nat × Kd)} {σ : Env} {w : World} {κ : Kd} {d : Option Tmp}
theorem RW.newG {w0 : World} {S : Nat → Prop} {O : List Nat} {M : Heap} {W : List OwnS} {G : List Fact} {o : Obj} {v : Nat → Value} (hl : ∀ b, lookM P n ops l σ b = some (κ, o, v b, d, r)) (hκ : κ ≠ .qui) (H : Hp w0 S O M W G w)
 (hk : ∀ b w', w' = { w with heap := w.heap.push o } → Hp w0 S O ((b, o) :: M) W G w' → RW P ops n ds K r (putO d (v b) σ) w') : RW P ops n ds K l σ w := by
 have c : ∃ s, look P n ops l σ = some (κ, s, d, r) ∧ ∀ b, newAt P b s = some (o, v b) := by
  have a := hl 0
  unfold lookM at a
  cases hlk : look P n ops l σ with
  | none => rw [hlk] at a; cases a
  | some x =>
   obtain ⟨κ', s, d', r'⟩ := x
   rw [hlk] at a
   simp only at a
   have all : ∀ b, κ' = κ ∧ newAt P b s = some (o, v b) ∧ d' = d ∧ r' = r := by
    intro b
    have hb := hl b
    unfold lookM at hb
    rw [hlk] at hb
    simp only at hb
    cases hn : newAt P b s with
    | none => rw [hn] at hb; cases hb
    | some y =>
     obtain ⟨o', u⟩ := y
     rw [hn] at hb
     simp only [Option.some.injEq, Prod.mk.injEq] at hb
     obtain ⟨rfl, rfl, e, rfl, rfl⟩ := hb
     exact ⟨rfl, by rw [e], rfl, rfl⟩
   obtain ⟨rfl, _, rfl, rfl⟩ := all 0
   exact ⟨s, rfl, fun b => (all b).2.1⟩
 obtain ⟨s, hl, hn⟩ := c
 exact RW.makeS hl hκ (newAt_run hn w) ⟨rfl, rfl, rfl, by simp, fun k hk => by
  show (w.heap.push o)[k]? = _
  rw [Array.getElem?_push, if_neg (by omega)]⟩ (hk _ _ rfl (H.alloc o))
end
end Go.BX

/-
 THE ENGINE, MORE: rows of bytes of the call's own that lie in a slice of its own: the slice holds bare values (Shape.raw), the rows stand behind in the list of own slices (rowsW); when they are written no more they are facts, and the slice is one of rows.
 No condition.
-/
namespace Go.BX
structure RowD where
 a : Option Addr
 n : Nat
 c : Nat
 xs : List (BitVec 8)
def RowD.v (r : RowD) : Value := .slice r.a r.n r.c
section
variable {w0 w : World} {S : Nat → Prop} {O : List Nat} {M : Heap} {W : List OwnS} {G : List Fact}
end
end Go.BX

/-
 THE ENGINE: reads and writes of a row of the call's own, in a region that draws its order.
 No condition.
-/
namespace Go.BX
section
variable {P : Program} {n : Nat} {ds : List Deferred} {ops : Array Oper} {K : Env → World → Prop} {l r : List (Nat × Kd)} {σ : Env} {w w1 : World} {κ : Kd} {d : Option Tmp} {Bs : List Nat}
variable {w0 : World} {S : Nat → Prop} {O : List Nat} {M : Heap} {W : List OwnS} {G : List Fact}
theorem RH.indexW {α : Type} {sh : Shape α} {xs : List α} {T e T' : TypeId} {m : Nat} {a : Option Addr} {len cap : Nat} {ik : IntKind} {ix : Int}
 (hl : look P n ops l σ = some (.qui, semV (Instr.indexAt T (.slice a len cap) (.int ik ix)), d, r)) (hS : Chg w1 Bs w) (hT : sliceE P T = some (e, m)) (hm : m = sh.size) (H : Hp w0 S O M (⟨sh, T', .slice a len cap, xs⟩ :: W) G w)
 (k : Nat) (hk : ix = (k : Int)) (hx : k < xs.length) (hlen : len = xs.length)
 (h : ∀ b es, a = some ⟨b, 0, none⟩ → Cells w b (k * m) es → sh.rep (Av S w0 O (idsOf M (⟨sh, T', .slice a len cap, xs⟩ :: W))) w es xs[k] → RH P ops n ds w1 Bs K r (putO d (.pointer (some ⟨b, k * m, none⟩)) σ) w) : RH P ops n ds w1 Bs K l σ w := by
 subst hk
 subst hm
 obtain ⟨b, es, ha, hc, hr⟩ := H.ownCell k hx hlen
 have c := h b es ha hc hr
 subst ha
 refine RH.readS hl hS (fun w' _ => semV_run (indexAt_run hT (by omega))) ?_
 rw [Nat.zero_add]; exact c
end
end Go.BX

/-
 THE ENGINE: one cell of an element of a row of the call's own is written.
 No condition.
-/
namespace Go.BX
section
variable {P : Program} {n : Nat} {ds : List Deferred} {ops : Array Oper} {K : Env → World → Prop} {l r : List (Nat × Kd)} {σ : Env} {w w1 : World} {κ : Kd} {d : Option Tmp} {Bs : List Nat}
variable {w0 : World} {S : Nat → Prop} {O : List Nat} {M : Heap} {W : List OwnS} {G : List Fact}
theorem WK.again {f : FuncId} {b : Code} {k : List Item} {R : Ending → World → Prop} (h : WK P f n (.code b :: .inLoop b :: k) σ ds w R) : WK P f n (.inLoop b :: k) σ ds w R :=
 WK.steps (fun _ a _ _ _ hf => ⟨a, hf, .one step_inLoop⟩) h
end
end Go.BX

/-
 THE ENGINE's BRIDGE: what a laws arguments read as, in the engine's shapes; what a law leaves.
 No condition.
-/
namespace Go.BX
open Go.RowKit
open Go.ChangeShapes Go.WideShapes Go.ChangeAt
def Reads {α : Type} (P : Program) (t : TypeId) (sh : Shape α) : Prop :=
 ∀ (H : Type) (enc : TypeId × Value → H) (w : World) (spare : Nat → Bool) (held : Bool) (fuel : Nat) (cs : List Value) (x : DataW H × List MemPlace),
  DataW.trod enc P w 0 spare held fuel t cs = some x → ∃ y, sh.rep (fun b => b < w.heap.size) w cs y
theorem Reads.int {P : Program} {t : TypeId} {k : IntKind} (ht : P.underlying t = some (.int k)) : Reads P t (Shape.int k) := by
 intro H enc w spare held fuel cs x h
 obtain ⟨n, rfl, _, hw⟩ := DataW.trod_int ht h
 simp only [Lit.wf, Bool.and_eq_true, decide_eq_true_eq] at hw
 exact ⟨n, rfl, hw⟩
theorem Reads.bool {P : Program} {t : TypeId} (ht : P.underlying t = some .bool) : Reads P t Shape.bool := by
 intro H enc w spare held fuel cs x h
 cases fuel with
 | zero => simp [DataW.trod] at h
 | succ n =>
  have hc : ∃ b, cs = [.bool b] := by
   unfold DataW.trod at h
   rw [ht] at h
   split at h <;> simp_all
  obtain ⟨b, rfl⟩ := hc
  exact ⟨b, rfl⟩
theorem Reads.str {P : Program} {t : TypeId} (ht : P.underlying t = some .string) : Reads P t Shape.str := by
 intro H enc w spare held fuel cs x h
 cases fuel with
 | zero => simp [DataW.trod] at h
 | succ n =>
  unfold DataW.trod at h
  rw [ht] at h
  split at h <;> simp_all
  exact ⟨_, rfl, h.1⟩
theorem exists_list {α : Type} {R : Nat → α → Prop} : ∀ (n : Nat), (∀ i, i < n → ∃ x, R i x) → ∃ xs : List α, xs.length = n ∧ ∀ i x, xs[i]? = some x → R i x
 | 0, _ => ⟨[], rfl, fun i x h => by simp at h⟩
 | n + 1, h => by
  obtain ⟨xs, hl, hr⟩ := exists_list n fun i hi => h i (by omega)
  obtain ⟨y, hy⟩ := h n (by omega)
  refine ⟨xs ++ [y], by simp [hl], fun i x hx => ?_⟩
  rcases Nat.lt_or_ge i xs.length with hlt | hge
  · rw [List.getElem?_append_left hlt] at hx; exact hr i x hx
  · rw [List.getElem?_append_right hge] at hx
    have h0 : i - xs.length = 0 := by
     have := (List.getElem?_eq_some_iff.1 hx).1
     simpa using this
    rw [h0] at hx
    cases hx
    obtain rfl : i = n := by omega
    exact hy
theorem Reads.slice {α : Type} {sh : Shape α} {P : Program} {t e : TypeId} (ht : P.underlying t = some (.slice e)) (hc : P.cellsOf e = sh.size) (hr : Reads P e sh) : Reads P t sh.slice := by
 intro H enc w spare held fuel cs x h
 rcases DataW.trod_slice ht h with ⟨rfl, _⟩ | ⟨a, len, cap, elems, rest, n, _, rfl, _, _, hl, hm, hlen, hel, _, _⟩
 · exact ⟨[], Shape.slice_nil⟩
 · have hsp : 0 < len → a.spot = none := fun k => by
    have d := hel 0 k
    rw [List.getElem?_eq_getElem (by omega)] at d
    obtain ⟨cs', f, _⟩ := Option.bind_eq_some_iff.1 d
    obtain ⟨_, g, hcell⟩ := World.cells?_some f
    have hpos : 0 < P.cellsOf e := by rw [hc]; exact sh.pos
    have c := hcell 0 hpos
    rw [List.getElem?_eq_getElem (by omega), Nat.zero_mul] at c
    have l : (a.add 0).add 0 = a := by simp [Addr.add]
    rw [l] at c
    unfold World.cell? at c
    split at c
    · split at c
      · cases c
      · rename_i hs
        simpa using hs
    · cases c
   have hi : ∀ i, i < len → ∃ y, ∃ es, Cells w a.block (a.off + i * sh.size) es ∧ sh.rep (fun b => b < w.heap.size) w es y ∧ a.spot = none := fun i hi => by
    have d := hel i hi
    rw [List.getElem?_eq_getElem (by omega)] at d
    obtain ⟨cs', f, c⟩ := Option.bind_eq_some_iff.1 d
    obtain ⟨y, hy⟩ := hr H enc w spare held n cs' _ c
    obtain ⟨_, g, hcell⟩ := World.cells?_some f
    have hpos : 0 < P.cellsOf e := by rw [hc]; exact sh.pos
    refine ⟨y, cs', fun j v hj => ?_, hy, hsp (by omega)⟩
    have hjl := (List.getElem?_eq_some_iff.1 hj).1
    have := hcell j (by omega)
    rw [hj, hc] at this
    have hsp := hsp (by omega)
    cases a with
    | mk ab ao az =>
     simp only at hsp
     subst hsp
     simpa [addr_lit, Nat.add_assoc] using this
   obtain ⟨xs, hxl, hxr⟩ := exists_list len hi
   subst hxl
   refine ⟨xs, some a, cap, rfl, hl, hm, fun i x hx => ?_⟩
   obtain ⟨es, d, f, c⟩ := hxr i x hx
   have hb : a.block < w.heap.size := d.lt (by rw [sh.len f]; exact sh.pos)
   cases a with
   | mk ab ao az =>
    simp only at c
    subst c
    exact ⟨ab, ao, es, rfl, hb, d, f⟩
def ReadsAt {α : Type} (P : Program) (fs : List Field) (o : Nat) (sh : Shape α) : Prop :=
 ∀ (H : Type) (enc : TypeId × Value → H) (w : World) (spare : Nat → Bool) (held : Bool) (fuel : Nat) (cs : List Value), cs.length = o + sh.size →
  (∀ f ∈ fs, ∃ y, DataW.trod enc P w 0 spare held fuel f.type ((cs.drop f.offset).take (P.cellsOf f.type)) = some y) → ∃ y, sh.rep (fun b => b < w.heap.size) w (cs.drop o) y
theorem ReadsAt.one {α : Type} {P : Program} {f : Field} {o : Nat} {sh : Shape α} (ho : f.offset = o) (hc : P.cellsOf f.type = sh.size) (hr : Reads P f.type sh) : ReadsAt P [f] o sh := by
 intro H enc w spare held fuel cs hl h
 obtain ⟨y, hy⟩ := h f (List.mem_cons_self ..)
 obtain ⟨z, hz⟩ := hr H enc w spare held fuel _ _ hy
 refine ⟨z, ?_⟩
 rw [ho, hc, List.take_of_length_le (by rw [List.length_drop]; omega)] at hz
 exact hz
theorem ReadsAt.cons {α β : Type} {P : Program} {f : Field} {fs : List Field} {o : Nat} {s : Shape α} {t : Shape β} (ho : f.offset = o) (hc : P.cellsOf f.type = s.size) (hr : Reads P f.type s) (hk : ReadsAt P fs (o + s.size) t) :
 ReadsAt P (f :: fs) o (Shape.pair s t) := by
 intro H enc w spare held fuel cs hl h
 obtain ⟨y, hy⟩ := h f (List.mem_cons_self ..)
 obtain ⟨z, hz⟩ := hr H enc w spare held fuel _ _ hy
 have hl' : cs.length = o + (s.size + t.size) := hl
 obtain ⟨u, hu⟩ := hk H enc w spare held fuel cs (by omega) fun f' hf' => h f' (List.mem_cons_of_mem _ hf')
 rw [ho, hc] at hz
 refine ⟨(z, u), (cs.drop o).take s.size, cs.drop (o + s.size), ?_, hz, hu⟩
 rw [← List.drop_drop, List.take_append_drop]
theorem Reads.struct {α : Type} {P : Program} {t : TypeId} {fs : Array Field} {sh : Shape α} (ht : P.underlying t = some (.struct fs)) (hc : P.cellsOf t = sh.size) (hr : ReadsAt P fs.toList 0 sh) : Reads P t sh := by
 intro H enc w spare held fuel cs x h
 obtain ⟨xs, n, _, rfl, hl, hlen, hf⟩ := DataW.trod_struct ht h
 obtain ⟨y, hy⟩ := hr H enc w spare held n cs (by omega) fun f hfm => by
  obtain ⟨i, hi, he⟩ := List.mem_iff_getElem.1 hfm
  have := hf i f (by rw [← he]; simp at hi ⊢)
  rw [this]
  have hix : i < xs.length := by simp at hi; omega
  exact ⟨xs[i], by simp [hix]⟩
 exact ⟨y, by simpa using hy⟩
theorem Reads.map {α β : Type} {P : Program} {t : TypeId} {s : Shape α} {f : β → α} (h : Reads P t s) (hf : ∀ a, ∃ b, f b = a) : Reads P t (s.map f) := by
 intro H enc w spare held fuel cs x hx
 obtain ⟨y, hy⟩ := h H enc w spare held fuel cs x hx
 obtain ⟨z, rfl⟩ := hf y
 exact ⟨z, hy⟩
section
variable {H : Type} {enc : TypeId × Value → H} {P : Program} {W W' : World}
theorem Reads.trod {α : Type} {sh : Shape α} {t : TypeId} {sp : Nat → Bool} {hd : Bool} {v : Value} {d : DataW H} {p : List MemPlace} (hr : Reads P t sh) (h : DataW.Trod enc P W 0 sp hd t v d p) : ∃ y, sh.rep (fun b => b < W.heap.size) W v.cells.toList y := by
 obtain ⟨n, hn⟩ := h
 exact hr H enc W sp hd n _ _ hn
theorem Reads.structArg {α : Type} {sh : Shape α} {t : TypeId} {fs : Array Field} {r : Reach} {base : Nat} {sp : Nat → Bool} {hd : Bool} {v : Value} {d : DataW H} {p : List MemPlace} (hr : Reads P t sh) (ht : P.underlying t = some (.struct fs)) (hval : Value.okWide P W r base t v) (h : DataW.Trod enc P W 0 sp hd t v d p) :
 ∃ (cs : List Value) (x : α), v = .agg cs.toArray ∧ sh.rep (fun b => b < W.heap.size) W cs x := by
 obtain ⟨cs, rfl, _⟩ := okWide_struct ht hval
 obtain ⟨x, hx⟩ := hr.trod h
 exact ⟨cs.toList, x, by simp, hx⟩
theorem trodAll_stays (hl : laidOutB P = true) (hb : Below W.heap.size W W') {sp : Nat → Bool} : ∀ {ts : List TypeId} {vs : List Value} {ds : List (DataW H)} {p : List MemPlace}, (∀ t ∈ ts, P.readableRec t = true ∧ t < P.types.size) → (∀ x ∈ p, x.block < W.heap.size) → (∀ x ∈ p, sp x.block = true) →
 DataW.TrodAll enc P W 0 (fun _ => true) true ts vs ds p → DataW.TrodAll enc P W' 0 sp true ts vs ds p
 | [], [], [], _, _, _, _, h => h
 | [], [], _ :: _, _, _, _, _, h => h.elim
 | [], _ :: _, _, _, _, _, _, h => h.elim
 | _ :: _, [], _, _, _, _, _, h => h.elim
 | _ :: _, _ :: _, [], _, _, _, _, h => h.elim
 | t :: ts, v :: vs, d :: ds, _, ht, hlt, hs, h => by
  obtain ⟨p, q, h1, h2, rfl⟩ := h
  exact ⟨p, q, WideElems.Trod_stays hl (ht t (List.mem_cons_self ..)).1 (ht t (List.mem_cons_self ..)).2 h1 (fun x hx => hb.same (hlt x (List.mem_append_left _ hx))) (fun x hx => hs x (List.mem_append_left _ hx)),
   trodAll_stays hl hb (fun t ht' => ht t (List.mem_cons_of_mem _ ht')) (fun x hx => hlt x (List.mem_append_right _ hx)) (fun x hx => hs x (List.mem_append_right _ hx)) h2, rfl⟩
theorem params_ok {ts : List TypeId} (h : (ts.all fun t => P.readableRec t && Nat.blt t P.types.size) = true) : ∀ t ∈ ts, P.readableRec t = true ∧ t < P.types.size := fun t ht => by
 have h1 := List.all_eq_true.1 h t ht
 simp only [Bool.and_eq_true, Nat.blt, Nat.ble_eq] at h1
 exact ⟨h1.1, h1.2⟩
theorem post_true {f : Func} {s : ChangeSpec} {fresh handsOn again : Bool} {args : Array Value} {ds gs : List (DataW H)} {before : List MemPlace} {tb : TypeId} (hl : laidOutB P = true)
 (hps : ∀ t ∈ f.params.toList, P.readableRec t = true ∧ t < P.types.size) (hv : s.vars = []) (hW : DataW.Whole enc P f.params.toList s.vars false W args.toList ds gs before) (hb : Ext W W')
 (hfn : s.fn H (ds ++ gs) = { results := [.lit (.bool true)], args := ds }) (hrt : f.resultTypes = #[tb]) (htb : P.underlying tb = some .bool) : s.post enc P f false fresh handsOn again W args (.bool true) W' := by
 have hW' := hW
 obtain ⟨p, q, hA, hV, rfl, hfz, hnd⟩ := hW
 rw [hv] at hV
 obtain ⟨rfl, rfl⟩ := trodVars_none hV
 have hlt : ∀ x ∈ p, x.block < W.heap.size := fun x hx => hW'.lt x (List.mem_append_left _ hx)
 have hres : ∀ (b : Nat) (sp : Nat → Bool) (hd : Bool), DataW.TrodAll enc P W' b sp hd f.resultTypes.toList ((Value.bool true).resultList f.resultTypes.size) (s.fn H (ds ++ [])).results [] := fun b sp hd => by
  rw [hfn, hrt]
  exact ⟨[], [], shut_bool htb true, rfl, rfl⟩
 have hargs : ∀ sp : Nat → Bool, (∀ x ∈ p, sp x.block = true) → DataW.TrodAll enc P W' 0 sp true f.params.toList args.toList (s.fn H (ds ++ [])).args p := fun sp hs => by
  rw [hfn]
  exact trodAll_stays hl hb hps hlt hs hA
 have hvars : ∀ sp : Nat → Bool, DataW.TrodVars enc P W' sp s.vars (s.fn H (ds ++ [])).vars [] := fun sp => by
  rw [hv, hfn]
  rfl
 rw [List.append_nil] at hW' hfz hnd
 refine ⟨ds, [], p, [], p, [], hW', hres _ _ _, hargs _ (fun x hx => by simpa using hlt x hx), hvars _, World.keptBut_mono (fun x hx => ⟨hx, .inr (.inl hx)⟩) (hb.frame _), fun _ => ?_⟩
 refine ⟨ok_one hrt rfl (okWide_bool_mk htb true), _, _, ([] ++ p) ++ [], ⟨[] ++ p, [], trodAll_append (hargs _ (fun _ _ => rfl)) (hres _ _ _), hvars _, rfl, ?_, ?_⟩, ?_⟩
 · intro b off hp
   have hp : MemPlace.cell b off ∈ p := by simpa using hp
   have hblk := hlt _ hp
   rw [hb.frozen (p := ⟨b, off, none⟩) hblk]
   exact hfz b off hp
 · intro h
   cases h
 · intro x hx _
   simpa using hx
end
end Go.BX

/-
 THE ENGINE's BRIDGE: numbers of 8 and 32 bits.
 No condition.
-/
namespace Go.BX
theorem Reads.bv8 {P : Program} {t : TypeId} (ht : P.underlying t = some (.int .u8)) : Reads P t (Shape.bv .u8 8) := by
 intro H enc w spare held fuel cs x h
 obtain ⟨n, rfl, a, b⟩ := Reads.int ht H enc w spare held fuel cs x h
 have h0' : 0 ≤ n := a
 have h1' : n ≤ 255 := b
 refine ⟨BitVec.ofInt 8 n, ?_⟩
 show [Value.int .u8 n] = [.int .u8 _]
 rw [BitVec.toNat_ofInt, Int.toNat_of_nonneg (Int.emod_nonneg _ (by decide))]
 congr 2
 simp only [Nat.reducePow]
 omega
theorem Reads.bv32 {P : Program} {t : TypeId} (ht : P.underlying t = some (.int .u32)) : Reads P t (Shape.bv .u32 32) := by
 intro H enc w spare held fuel cs x h
 obtain ⟨n, rfl, a, b⟩ := Reads.int ht H enc w spare held fuel cs x h
 have h0' : 0 ≤ n := a
 have h1' : n ≤ 4294967295 := b
 refine ⟨BitVec.ofInt 32 n, ?_⟩
 show [Value.int .u32 n] = [.int .u32 _]
 rw [BitVec.toNat_ofInt, Int.toNat_of_nonneg (Int.emod_nonneg _ (by decide))]
 congr 2
 simp only [Nat.reducePow]
 omega
end Go.BX

