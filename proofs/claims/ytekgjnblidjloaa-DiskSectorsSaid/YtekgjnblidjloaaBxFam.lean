/-
  THE ENGINE's further steps for maps and pointers: a lookup whose outcome is known; a clone of a map; two pointers held against each other; a slice read as an array.
  No condition.
-/
import Derived.Test.YtekgjnblidjloaaBxMap
import Derived.LaidEqlPtr
import Derived.Laws.Externs
namespace Go.BX
open Go.RowKit (Below)

section
variable {α β : Type} {P : Program} {n : Nat} {ds : List Deferred} {ops : Array Oper} {K : Env → World → Prop} {l r : List (Nat × Kd)} {σ : Env} {w : World} {κ : Kd} {d : Option Tmp}
variable {w0 : World} {S : Nat → Prop} {O : List Nat} {M M' : Heap} {W : List OwnS} {G : List Fact} {mk : α → Value} {vk : β → Value} {L : List (α × β × Nat)} {b c : Nat} {T : TypeId}

theorem RW.mapGetF [DecidableEq α] {Kt E : TypeId} {z : β} (x : α) (ok : Bool) (q : Option β) {v : Value} (hl : look P n ops l σ = some (κ, semV (Instr.lookup T (.map (some b)) (mk x) ok), d, r)) (H : Hp w0 S O M W G w) (i : Nat) (hm : M[i]? = some (b, mapO mk vk L c))
    (hk : KeyOk P Kt mk) (hT : P.underlying T = some (.map Kt E)) (hz : ∀ w, (zeroValue E).run P w = .ok (vk z) w) (hf : mfind x L = q) (hv : (if ok then .tuple #[vk (q.getD z), .bool q.isSome] else vk (q.getD z)) = v)
    (h : RW P ops n ds K r (putO d v σ) w) : RW P ops n ds K l σ w :=
  RW.mapGet x ok hl H i hm hk hT hz (by rw [hf, hv]; exact h)

theorem clone_run {b : Nat} {es : Array MapEntry} {clock : Nat} (t : TypeId) (hb : w.heap[b]? = some (.map es clock)) :
    (Extern.MapsClone.clone #[.iface t (.map (some b))]).run P w = .ok (.iface t (.map (some w.heap.size))) (w.alloc (.map es clock)) := by
  have e : Extern.MapsClone.clone #[.iface t (.map (some b))] = (getObj b >>= fun o => match o with
      | .map entries clock => (newObj (.map entries clock) >>= fun n => pure (.iface t (.map (some n))))
      | _ => stuck "maps.clone: a map expected") := rfl
  rw [e]
  simp [getObj_run hb, Result.andThen, go_sem]

/-- a call of maps.clone -/
theorem RW.cloneM {f : FuncId} {fn : Func} {t : TypeId} (hl : look P n ops l σ = some (κ, callFunc f #[.iface t (.map (some b))], d, r)) (hκ : κ ≠ .qui) (hfn : P.funcs[f]? = some fn) (hname : (fn.name == "runtime.NumGoroutine") = false)
    (hbd : fn.body.isNone = true) (hn : Extern.findNext fn = none) (he : Extern.find fn = some Extern.MapsClone.clone) (H : Hp w0 S O M W G w) (i : Nat) (hm : M[i]? = some (b, mapO mk vk L c))
    (h : ∀ q w', Hp w0 S O ((q, mapO mk vk L c) :: M) W G w' → RW P ops n ds K r (putO d (.iface t (.map (some q))) σ) w') : RW P ops n ds K l σ w := by
  have hb := (H.own _ (List.mem_of_getElem? hm)).1
  refine RW.makeS hl hκ (w1 := { w with heap := w.heap.push (mapO mk vk L c) }) ?_ ⟨rfl, rfl, rfl, by simp, fun k hk => by
    show (w.heap.push _)[k]? = _
    rw [Array.getElem?_push, if_neg (by omega)]⟩ (h _ _ (H.alloc _))
  rw [run_callFunc_extern hfn hname hbd hn he, clone_run t hb]
  rfl

def sizedE (P : Program) (E : TypeId) : Bool := match P.info? E with
  | some i => !Nat.beq i.size 0
  | none => false
/-- two pointers to blocks of the call's own -/
theorem RW.ptrEq {E : TypeId} {p q : Nat} {cp cq : Array Value} {tp tq : TypeId} (hl : look P n ops l σ = some (κ, semV (binOp .eql T (.pointer (some ⟨q, 0, none⟩)) (.pointer (some ⟨p, 0, none⟩))), d, r)) (hT : P.underlying T = some (.pointer E)) (hE : sizedE P E = true)
    (H : Hp w0 S O M W G w) (hp : (p, Obj.cells cp tp (0, 0)) ∈ M) (hq : (q, Obj.cells cq tq (0, 0)) ∈ M) (h : RW P ops n ds K r (putO d (.bool (decide (q = p))) σ) w) : RW P ops n ds K l σ w := by
  obtain ⟨ti, hE, hsz⟩ : ∃ ti, P.info? E = some ti ∧ ti.size ≠ 0 := by
    unfold sizedE at hE
    split at hE
    · rename_i i hi
      exact ⟨i, hi, fun e => by rw [e] at hE; cases hE⟩
    · cases hE
  have h1 := (H.own _ hp).1
  have h2 := (H.own _ hq).1
  refine RW.readS hl (fun w' he => semV_run ?_) h
  by_cases hqp : q = p
  · subst hqp
    rw [run_eql_ptr_same w' _ hT hE]
    simp
  · rw [run_eql_ptr_other w' hT hE hsz (fun e => hqp (by injection e)) (he.block h2) (he.block h1)]
    simp [hqp]

theorem arrayAt_run {E : TypeId} {N : Nat} {a : Option Addr} {len cap : Nat} (hT : P.underlying T = some (.array N E)) (hle : N ≤ len) : (Instr.arrayAt T (.slice a len cap)).run P w = .ok (.pointer a) w := by
  simp [Instr.arrayAt, run_underlying hT, Nat.not_lt.2 hle]
theorem RW.arrAt {E : TypeId} {N : Nat} {a : Option Addr} {len cap : Nat} (hl : look P n ops l σ = some (κ, semV (Instr.arrayAt T (.slice a len cap)), d, r)) (hT : P.underlying T = some (.array N E)) (hle : N ≤ len)
    (h : RW P ops n ds K r (putO d (.pointer a) σ) w) : RW P ops n ds K l σ w :=
  RW.readS hl (fun _ _ => semV_run (arrayAt_run hT hle)) h
end

/-- the cells of a slice of bytes, as many as are told -/
theorem bytes_cells {S : Nat → Prop} {w : World} {a : Option Addr} {c N : Nat} {xs : List (BitVec 8)} (h : (Shape.slice (Shape.bv .u8 8)).rep S w [.slice a xs.length c] xs) (hN : N ≤ xs.length) (hN0 : 0 < N) :
    ∃ b o, a = some ⟨b, o, none⟩ ∧ Cells w b o ((List.range N).map fun i => .int .u8 (((xs.getD i 0#8).toNat : Nat) : Int)) := by
  obtain ⟨-, -, -, hE⟩ := Shape.elems_of h
  obtain ⟨b, o, es, ha, -, -, -⟩ := hE 0 xs[0] (List.getElem?_eq_getElem (by omega))
  refine ⟨b, o, ha, fun j v hj => ?_⟩
  have hjN : j < N := by
    have := (List.getElem?_eq_some_iff.1 hj).1
    simpa using this
  obtain ⟨b', o', es', ha', -, hc, hr⟩ := hE j xs[j] (List.getElem?_eq_getElem (by omega))
  rw [ha] at ha'
  injection ha' with ha'
  injection ha' with h1 h2
  subst h1
  subst h2
  obtain rfl := hr
  have := hc 0 _ rfl
  rw [List.getElem?_map, List.getElem?_range hjN] at hj
  simp only [Option.map_some, Option.some.injEq] at hj
  rw [← hj]
  simpa [Shape.bv, List.getD_eq_getElem?_getD, List.getElem?_eq_getElem (show j < xs.length by omega)] using this
end Go.BX
