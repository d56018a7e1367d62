/-
  THE ENGINE: its most used steps under short names, and short names for values.
  No condition.
-/
import Derived.Test.YtppcdmbkgficiaaBxHeld
import Derived.Test.YtppcdmbkgficiaaBxStr
abbrev Go.Value.I (x : Int) : Go.Value := .int .i64 x
abbrev Go.Value.P (b o : Nat) : Go.Value := .pointer (some ⟨b, o, none⟩)
abbrev Go.Value.L {α : Type} (a : Option Go.Addr) (xs : List α) (c : Nat) : Go.Value := .slice a xs.length c
namespace Go.BX
abbrev Sb : Shape (BitVec 8) := Shape.bv .u8 8
abbrev SB : Shape (List (BitVec 8)) := Shape.slice Sb
abbrev Cq (P : Program) (f : Nat) (p : List Nat) : Item := .code (cd P f p)
abbrev Lq (P : Program) (f : Nat) (p : List Nat) : Item := .inLoop (cd P f p)
/-- what is to be done, by places in one function -/
inductive It where
  | c (p : List Nat)
  | l (p : List Nat)
  | b (n : Nat)
abbrev it (P : Program) (f : Nat) : It → Item
  | .c p => .code (cd P f p)
  | .l p => .inLoop (cd P f p)
  | .b n => .inBlock n
abbrev qs (l : List Nat) : List (Nat × Kd) := l.map fun i => (i, .qui)
theorem i64a {S : Nat → Prop} {w : World} {x : Int} (h1 : -9223372036854775808 ≤ x := by first | omega | (simp <;> omega)) (h2 : x ≤ 9223372036854775807 := by first | omega | (simp <;> omega)) : (Shape.int .i64).rep S w [.int .i64 x] x := Shape.i64_in h1 h2
theorem u64a {S : Nat → Prop} {w : World} {x : Int} (h1 : 0 ≤ x := by first | omega | (simp <;> omega)) (h2 : x ≤ 18446744073709551615 := by first | omega | (simp <;> omega)) : (Shape.int .u64).rep S w [.int .u64 x] x := Shape.u64_in h1 h2

section
variable {P : Program} {f : FuncId} {n : Nat} {σ : Env} {ds : List Deferred} {w w1 : World} {Bs : List Nat} {R : Ending → World → Prop} {ops : Array Oper} {K : Env → World → Prop} {l : List (Nat × Kd)}
theorem qP (m : Nat) (l' : List (Nat × Kd)) (σ' : Env) (hk : RW P ops n ds K l' σ' w) (h : (rrun P n ops m l σ).map (fun x => (x.1, pick (σ'.map (·.1)) x.2)) = some (l', σ') := by as_aux_lemma => kernel_rfl) (hl : l'.isEmpty = false := by as_aux_lemma => kernel_rfl) : RW P ops n ds K l σ w :=
  RW.runP m _ l' σ' h hl hk
theorem qR {todo : List Item} (m : Nat) (t : List It) (σ' : Env) (hk : WK P f n (t.map (it P f)) σ' ds w R) (h : (mrun P n m todo σ).map (fun x => (x.1, pick (σ'.map (·.1)) x.2)) = some (t.map (it P f), σ') := by as_aux_lemma => kernel_rfl) : WK P f n todo σ ds w R :=
  WK.run m _ _ σ' h hk
theorem qF {k : List Item} (m : Nat) (σ' : Env) (hk : WK P f n k σ' ds w R) (h : (rrun P n ops m l σ).map (fun x => (x.1, pick (σ'.map (·.1)) x.2)) = some ([], σ') := by as_aux_lemma => kernel_rfl) :
    RW P ops n ds (fun σ' w' => WK P f n k σ' ds w' R) l σ w := RW.fin m _ σ' h hk
theorem qG {c : Code} {k : List Item} (l : List (Nat × Kd)) (h : RW P (opsOf c) n ds (fun σ' w' => WK P f n k σ' ds w' R) l σ w) (hc : c = .region (idOf c) (opsOf c) false := by as_aux_lemma => kernel_rfl) (hl : l.map (·.1) = List.range (opsOf c).size := by as_aux_lemma => kernel_rfl) :
    WK P f n (.code c :: k) σ ds w R := WK.reg1 hc hl h
theorem qC {g : Nat} {p : List Nat} {k : List Item} (b : Bool) (ht : b = true → WK P f n (.code (cd P g (p ++ [0])) :: k) σ ds w R) (hf : b = false → WK P f n (.code (cd P g (p ++ [1])) :: k) σ ds w R)
    (hc : cd P g p = .cond (condOf (cd P g p)) (cd P g (p ++ [0])) (cd P g (p ++ [1])) := by as_aux_lemma => kernel_rfl) (hb : ev σ (condOf (cd P g p)) = some (.bool b) := by as_aux_lemma => kernel_rfl) :
    WK P f n (.code (cd P g p) :: k) σ ds w R := WK.cond1 b hc hb ht hf
theorem qT {fn : Func} {c : Code} {k : List Item} (v : Value) (hf : P.funcs[f]? = some fn) (h : R (.returned v) w) (hc : c = .ret := by as_aux_lemma => kernel_rfl) (hr : resV σ fn.results = some v := by as_aux_lemma => kernel_rfl) :
    WK P f n (.code c :: k) σ [] w R := WK.ret hf hc hr h
theorem qS {fn : Func} {args : Array Value} (hf : P.funcs[f]? = some fn) (h : WK P f n [.code (cd P f [])] σ [] w R) (hn : fn.ntmps = n := by rfl) (hb : fn.body = some (cd P f []) := by as_aux_lemma => kernel_rfl) (ha : Nat.ble args.toList.length n = true := by as_aux_lemma => kernel_rfl)
    (hσ : σ = ((List.range args.toList.length).zip args.toList) := by as_aux_lemma => kernel_rfl) : Calls P f args w R := WK.calls1 hf hn hb ha hσ h
theorem qL (κ : Kd) (d : Nat) (r : List (Nat × Kd)) (T : TypeId) (b o' k : Nat) (v : Value) {o : Nat} {cs : List Value} (hc : Cells w b o cs) (h : RW P ops n ds K r (putO (some d) v σ) w)
    (hl : look P n ops l σ = some (κ, semV (Instr.loadAt T (.pointer (some ⟨b, o', none⟩))), some d, r) := by as_aux_lemma => kernel_rfl) (he : loadE P T cs k = some v := by as_aux_lemma => kernel_rfl) (hk : o' = o + k := by rfl) : RW P ops n ds K l σ w :=
  RW.load hl hc hk he h
theorem qK (κ : Kd) (d : Option Tmp) (r : List (Nat × Kd)) (g : FuncId) (args : Array Value) {φ : Value → World → Prop} (hc : Calls P g args w (Ret fun v w' => Ext w w' ∧ φ v w'))
    (hk : ∀ v w', Ext w w' → φ v w' → RW P ops n ds K r (putO d v σ) w') (hl : lookC P n ops l σ = some (κ, g, args, d, r) := by as_aux_lemma => kernel_rfl) (hκ : κ ≠ .qui := by nofun) : RW P ops n ds K l σ w := RW.call hl hκ hc hk
theorem qHP (hS : Chg w1 Bs w) (m : Nat) (l' : List (Nat × Kd)) (σ' : Env) (hk : RH P ops n ds w1 Bs K l' σ' w) (h : (rrun P n ops m l σ).map (fun x => (x.1, pick (σ'.map (·.1)) x.2)) = some (l', σ') := by as_aux_lemma => kernel_rfl) (hl : l'.isEmpty = false := by as_aux_lemma => kernel_rfl) : RH P ops n ds w1 Bs K l σ w :=
  RH.runP hS m _ l' σ' h hl hk
theorem qD {g : Nat} {p : List Nat} {k : List Item} (q : Prop) [Decidable q] (ht : q → WK P f n (.code (cd P g (p ++ [0])) :: k) σ ds w R) (hf : ¬ q → WK P f n (.code (cd P g (p ++ [1])) :: k) σ ds w R)
    (hc : cd P g p = .cond (condOf (cd P g p)) (cd P g (p ++ [0])) (cd P g (p ++ [1])) := by as_aux_lemma => kernel_rfl) (hb : ev σ (condOf (cd P g p)) = some (.bool (decide q)) := by as_aux_lemma => kernel_rfl) :
    WK P f n (.code (cd P g p) :: k) σ ds w R := WK.cond1 (decide q) hc hb (fun h => ht (of_decide_eq_true h)) (fun h => hf (of_decide_eq_false h))
theorem qE {g : Nat} {p : List Nat} {k : List Item} {α : Type} [BEq α] [LawfulBEq α] (x y : α) (ht : x = y → WK P f n (.code (cd P g (p ++ [0])) :: k) σ ds w R) (hf : x ≠ y → WK P f n (.code (cd P g (p ++ [1])) :: k) σ ds w R)
    (hc : cd P g p = .cond (condOf (cd P g p)) (cd P g (p ++ [0])) (cd P g (p ++ [1])) := by as_aux_lemma => kernel_rfl) (hb : ev σ (condOf (cd P g p)) = some (.bool (x == y)) := by as_aux_lemma => kernel_rfl) :
    WK P f n (.code (cd P g p) :: k) σ ds w R := WK.cond1 (x == y) hc hb (fun h => ht (eq_of_beq h)) (fun h => hf (ne_of_beq_false h))
theorem qN {g : Nat} {p : List Nat} {k : List Item} {α : Type} [BEq α] [LawfulBEq α] (x y : α) (ht : x ≠ y → WK P f n (.code (cd P g (p ++ [0])) :: k) σ ds w R) (hf : x = y → WK P f n (.code (cd P g (p ++ [1])) :: k) σ ds w R)
    (hc : cd P g p = .cond (condOf (cd P g p)) (cd P g (p ++ [0])) (cd P g (p ++ [1])) := by as_aux_lemma => kernel_rfl) (hb : ev σ (condOf (cd P g p)) = some (.bool (x != y)) := by as_aux_lemma => kernel_rfl) :
    WK P f n (.code (cd P g p) :: k) σ ds w R := WK.cond1 (x != y) hc hb (fun h => ht (bne_iff_ne.1 h)) (fun h => hf (bne_eq_false_iff_eq.1 h))
theorem tD (F : Bool → Env) (q : Prop) [Decidable q] (ht : q → RW P ops n ds K l (F true) w) (hf : ¬ q → RW P ops n ds K l (F false) w) : RW P ops n ds K l (F (decide q)) w := RW.test F _ (fun h => ht (of_decide_eq_true h)) (fun h => hf (of_decide_eq_false h))
theorem tE {α : Type} [BEq α] [LawfulBEq α] (F : Bool → Env) (x y : α) (ht : x = y → RW P ops n ds K l (F true) w) (hf : x ≠ y → RW P ops n ds K l (F false) w) : RW P ops n ds K l (F (x == y)) w := RW.test F _ (fun h => ht (eq_of_beq h)) (fun h => hf (ne_of_beq_false h))
theorem tN {α : Type} [BEq α] [LawfulBEq α] (F : Bool → Env) (x y : α) (ht : x ≠ y → RW P ops n ds K l (F true) w) (hf : x = y → RW P ops n ds K l (F false) w) : RW P ops n ds K l (F (x != y)) w := RW.test F _ (fun h => ht (bne_iff_ne.1 h)) (fun h => hf (bne_eq_false_iff_eq.1 h))
theorem qB {w0 : World} {S : Nat → Prop} {O : List Nat} {M : Heap} {W : List OwnS} {G : List Fact} (κ : Kd) (d : Nat) (r : List (Nat × Kd)) (c : Array Value) (T : TypeId) (H : Hp w0 S O M W G w)
    (hk : ∀ b w', Hp w0 S O ((b, .cells c T (0, 0)) :: M) W G w' → RW P ops n ds K r (putO (some d) (.P b 0) σ) w') (hl : ∀ b, lookM P n ops l σ b = some (κ, .cells c T (0, 0), .P b 0, some d, r) := by exact (fun b => by as_aux_lemma => kernel_rfl)) (hκ : κ ≠ .qui := by nofun) : RW P ops n ds K l σ w :=
  RW.new hl hκ H hk
theorem qX {w0 : World} {S : Nat → Prop} {O : List Nat} {M : Heap} {W : List OwnS} {G : List Fact} {α : Type} {xs : List α} {a : Option Addr} {len cap : Nat} (κ : Kd) (d : Nat) (r : List (Nat × Kd)) (T e : TypeId) (ix : Int) (sh : Shape α) (x : α) (H : Hp w0 S O M W G w) (g : Nat) (hg : G[g]? = some (Rp sh.slice [.slice a len cap] xs)) (k : Nat) (hk : ix = (k : Int)) (hx : xs[k]? = some x)
    (h : ∀ b o es, sh.rep (Av S w0 O (idsOf M W)) w es x → Hp w0 S O M W (Fc b o es :: G) w → RW P ops n ds K r (putO (some d) (.pointer (some ⟨b, o, none⟩)) σ) w)
    (hl : look P n ops l σ = some (κ, semV (Instr.indexAt T (.slice a len cap) (.int .i64 ix)), some d, r) := by as_aux_lemma => kernel_rfl) (hT : sliceE P T = some (e, sh.size) := by as_aux_lemma => kernel_rfl) : RW P ops n ds K l σ w :=
  RW.index hl hT H g hg k hk hx h
theorem qI (κ : Kd) (d : Nat) (r : List (Nat × Kd)) (t : Int) (h : RW P ops n ds K r (putO (some d) (.int .i64 t) σ) w) (hb : -9223372036854775808 ≤ t ∧ t ≤ 9223372036854775807 := by omega) (hl : lookP P n ops l σ = some (κ, .int .i64 (IntKind.i64.wrap t), some d, r) := by as_aux_lemma => kernel_rfl) : RW P ops n ds K l σ w :=
  RW.wr64 hl hb h
end
section
variable {P : Program} {f : FuncId} {n : Nat} {σ : Env} {ds : List Deferred} {w : World} {R : Ending → World → Prop} {ops : Array Oper} {K : Env → World → Prop} {l : List (Nat × Kd)}
theorem qW {w0 : World} {S : Nat → Prop} {O : List Nat} {M : Heap} {W : List OwnS} {G : List Fact} {T' : TypeId} {c c' : Array Value} (T : TypeId) (b k : Nat) (r : List (Nat × Kd)) (v : Value) (M' : Heap) (H : Hp w0 S O M W G w) (i : Nat) (hm : M[i]? = some (b, .cells c T' (0, 0))) (hM : M.set i (b, .cells c' T' (0, 0)) = M')
    (h : ∀ w', Hp w0 S O M' W G w' → RW P ops n ds K r (putO none undef σ) w') (hl : look P n ops l σ = some (.seq, semU (Instr.storeAt T (.pointer (some ⟨b, k, none⟩)) v), none, r) := by as_aux_lemma => kernel_rfl) (hs : storeE P T k v c = some c' := by as_aux_lemma => kernel_rfl) : RW P ops n ds K l σ w :=
  RW.store hl H i hm hs hM h
theorem qWC {w0 : World} {S : Nat → Prop} {O : List Nat} {M : Heap} {W : List OwnS} {G : List Fact} {T' : TypeId} {c c' : Array Value} (T : TypeId) (b k : Nat) (r : List (Nat × Kd)) (v : Value) (M' : Heap) (H : Hp w0 S O M W G w) (i : Nat) (hm : M[i]? = some (b, .cells c T' (0, 0))) (hM : M.set i (b, .cells c' T' (0, 0)) = M')
    (h : ∀ w', Chg w [b] w' → Hp w0 S O M' W G w' → RW P ops n ds K r (putO none undef σ) w') (hl : look P n ops l σ = some (.seq, semU (Instr.storeAt T (.pointer (some ⟨b, k, none⟩)) v), none, r) := by as_aux_lemma => kernel_rfl) (hs : storeE P T k v c = some c' := by as_aux_lemma => kernel_rfl) : RW P ops n ds K l σ w :=
  RW.storeC hl H i hm hs hM h
theorem vT {t : Nat} {v : Value} (h : find σ t = some v := by as_aux_lemma => kernel_rfl) : RV P n ds σ w (.tmp t) v := RV.tmp h
theorem vC {c T b o : Nat} {cs : List Value} {v : Value} (hc : Cells w b o cs) (h : find σ c = some (.pointer (some ⟨b, o, none⟩)) := by as_aux_lemma => kernel_rfl) (he : loadE P T cs 0 = some v := by as_aux_lemma => kernel_rfl) : RV P n ds σ w (.cell c T) v := RV.cell h hc rfl he
theorem v1 {fn : Func} {v : Value} (x : ResultVar) (h : RV P n ds σ w x v) (hf : fn.results = #[x] := by as_aux_lemma => kernel_rfl) : ∀ a, Fits n σ ds a → (results fn a.tmps).run P w = .ok v w := RV.res1 hf h
theorem v2 {fn : Func} {v u : Value} (x y : ResultVar) (h : RV P n ds σ w x v) (k : RV P n ds σ w y u) (hf : fn.results = #[x, y] := by as_aux_lemma => kernel_rfl) : ∀ a, Fits n σ ds a → (results fn a.tmps).run P w = .ok (.tuple #[v, u]) w := RV.res2 hf h k
theorem v3 {fn : Func} {v u t : Value} (x y z : ResultVar) (h : RV P n ds σ w x v) (k : RV P n ds σ w y u) (j : RV P n ds σ w z t) (hf : fn.results = #[x, y, z] := by as_aux_lemma => kernel_rfl) : ∀ a, Fits n σ ds a → (results fn a.tmps).run P w = .ok (.tuple #[v, u, t]) w := RV.res3 hf h k j
theorem qRB {fn : Func} {c : Code} {k : List Item} (v : Value) (hf : P.funcs[f]? = some fn) (hr : ∀ a, Fits n σ [] a → (results fn a.tmps).run P w = .ok v w) (h : R (.returned v) w) (hc : c = .ret := by as_aux_lemma => kernel_rfl) : WK P f n (.code c :: k) σ [] w R := WK.retBy hf hc hr h
end
def fr.{u} {α : Type u} (i : Nat) (l : List α) : List α := match l[i]? with
  | some x => x :: l.eraseIdx i
  | none => l
theorem fr_perm.{u} {α : Type u} (i : Nat) (l : List α) : (fr i l).Perm l := by
  unfold fr
  split
  · rename_i x h
    obtain ⟨hi, rfl⟩ := List.getElem?_eq_some_iff.1 h
    have e : l = l.take i ++ l[i] :: l.drop (i + 1) := by rw [List.getElem_cons_drop, List.take_append_drop]
    rw [List.eraseIdx_eq_take_drop_succ]
    exact List.perm_middle.symm.trans (List.Perm.of_eq e.symm)
  · exact List.Perm.refl _
theorem Hp.frontM {w0 w : World} {S : Nat → Prop} {O : List Nat} {M : Heap} {W : List OwnS} {G : List Fact} (H : Hp w0 S O M W G w) (i : Nat) {M' : Heap} (h : fr i M = M') : Hp w0 S O M' W G w := by
  subst h
  exact H.perms (fr_perm i M) (List.Perm.refl _)
theorem Hp.frontW {w0 w : World} {S : Nat → Prop} {O : List Nat} {M : Heap} {W : List OwnS} {G : List Fact} (H : Hp w0 S O M W G w) (i : Nat) {W' : List OwnS} (h : fr i W = W') : Hp w0 S O M W' G w := by
  subst h
  exact H.perms (List.Perm.refl _) (fr_perm i W)
end Go.BX
