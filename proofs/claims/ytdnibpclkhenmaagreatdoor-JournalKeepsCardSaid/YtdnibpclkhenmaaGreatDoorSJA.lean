import Derived.Test.YtdnibpclkhenmaaGreatDoorSG1
import Derived.Test.YtdnibpclkhenmaaGreatDoorSBxB
import Derived.WalkKit
import Derived.LaidEql
import Derived.Stop.Asserts
import Derived.RowKitTokens
import Derived.OneCell
import Derived.Lib.LaidTab
import Derived.Lib.AppendIntMem
namespace Go.Proofs.YtdnibpclkhenmaaGreatDoor
open Go.BX
open Go.RowKit Go.Extern.Stop Go.Stop Go.Extern
theorem rlm(z:Sem Value)(f:TypeId→Addr→Nat→Nat→Sem Value)(v:Value):
 ReflectliteValue.method z f #[v]=(do match←ReflectliteValue.parts v with|none=>z|some (t,a,fl)=>f t a fl (fl%32)):=rfl
theorem rls(v x:Value):ReflectliteValue.set #[v,x]=(do
 let(some (dst,a,fl),some (src,b,_)):=(←ReflectliteValue.parts v,←ReflectliteValue.parts x)
  | unsupported (.noEntry "extern/(internal/reflectlite.Value).Set.zeroValue")
 if fl / ReflectliteValue.flagAddr % 2 == 0 then unsupported (.noEntry "extern/(internal/reflectlite.Value).Set.unaddressable")
 let val←loadVar src b
 if←Rtype.directlyAssignable dst src then storeVar dst a val
 else if←Rtype.implements dst src then
  if(←Rtype.kind src)==20 then
   match val with
   | .nilIface => unsupported (.noEntry "extern/reflectlite: a nil value of one interface type handed on as a value of another")
   |_=>storeVar dst a val
  else storeVar dst a (.iface src val)
 else panicString ("reflectlite.Set: value of type " ++ (← Rtype.spelt src) ++ " is not assignable to type " ++ (← Rtype.spelt dst))
 pure (.tuple #[])):=rfl
theorem rMeth (h : Value) (w : World) : (Go.method 584 283 (.agg #[h]) "Kind").run Tryz.prog w = .ok (339, h) w := by kernel_rfl
theorem rElem (h : Value) (w : World) : (Go.method 584 283 (.agg #[h]) "Elem").run Tryz.prog w = .ok (350, .agg #[h]) w := by kernel_rfl
theorem rImpl (h : Value) (w : World) : (Go.method 584 283 (.agg #[h]) "Implements").run Tryz.prog w = .ok (351, .agg #[h]) w := by kernel_rfl
theorem rAssi (h : Value) (w : World) : (Go.method 584 283 (.agg #[h]) "AssignableTo").run Tryz.prog w = .ok (348, .agg #[h]) w := by kernel_rfl
theorem rComp (h : Value) (w : World) : (Go.method 584 283 (.agg #[h]) "Comparable").run Tryz.prog w = .ok (349, .agg #[h]) w := by kernel_rfl
theorem errT_lt{w:World}{v:Value}{b:Nat}(h:w.cell? ⟨b,0,none⟩=some v):b<w.heap.size:=by
 rcases Nat.lt_or_ge b w.heap.size with h1|h1
 ·exact h1
 ·simp[World.cell?,Array.getElem?_eq_none h1]at h
def jQ (w : World) : Prop := w.cell? ⟨1, 0, none⟩ = some (.iface 283 (.agg #[.P 7 127])) ∧ (∃ e : Addr, w.cell? ⟨0, 0, none⟩ = some (.iface 437 (.pointer (some e)))) ∧ Lib.TabIs Tryz.prog w "internal/strconv.uint64pow10" .u64 Lib.pow10Tab
theorem vo323(t:Addr)(w:World):(ReflectliteValue.unpack (.iface 323 (.pointer (some t)))).run Tryz.prog w
 =.ok (.agg #[.P 7 323,.pointer (some ⟨w.heap.size,0,none⟩),.int .u64 150]) (w.alloc (.cells #[.pointer (some t)] 323)):=by kernel_rfl
theorem ty323 (a : Addr) (w : World) : (ReflectliteValue.methodAny (ReflectliteValue.valueError "reflectlite.Value.Type" 0) (fun t _ _ _ => ReflectliteType.toType t) #[.agg #[.P 7 323, .pointer (some a), .int .u64 150]]).run Tryz.prog w
 =.ok (.iface 283 (.agg #[.P 7 323])) w:=by kernel_rfl
theorem ki323(w:World):((ReflectliteType.abiMethod fun t=>(fun a:Nat=>Value.int IntKind.u8 (a:Int))<$>Rtype.kind t) #[.P 7 323]).run Tryz.prog w=.ok (.int .u8 22) w:=by kernel_rfl
theorem ki322(w:World):((ReflectliteType.abiMethod fun t=>(fun a:Nat=>Value.int IntKind.u8 (a:Int))<$>Rtype.kind t) #[.P 7 322]).run Tryz.prog w=.ok (.int .u8 2) w:=by kernel_rfl
theorem pa323(a:Addr)(w:World):(ReflectliteValue.parts (.agg #[.P 7 323,.pointer (some a),.int .u64 150])).run Tryz.prog w=.ok (some (323,a,150)) w:=by kernel_rfl
theorem ni323(a p:Addr)(W:World)(ha:W.cell? a=some (.pointer (some p))):
 (ReflectliteValue.method (ReflectliteValue.valueError "reflectlite.Value.IsNil" 0) ReflectliteValue.isNil #[.agg #[.P 7 323, .pointer (some a), .int .u64 150]]).run Tryz.prog W = .ok (.bool false) W := by
 rw[rlm]
 simp only[Sem.run_bind,pa323,Result.andThen]
 simp[ReflectliteValue.isNil,loadVar,isAgg,underlying,Tryz.underlying323,ha,Result.andThen]
theorem el323(w:World):(ReflectliteType.method ReflectliteType.elem #[.agg #[.P 7 323]]).run Tryz.prog w=.ok (.iface 283 (.agg #[.P 7 322])) w:=by kernel_rfl
theorem im322 (w : World) : (ReflectliteType.relation "Implements" ReflectliteType.implements_ #[.agg #[.P 7 322], .iface 283 (.agg #[.P 7 127])]).run Tryz.prog w = .ok (.bool true) w := by kernel_rfl
theorem to322(v:Value)(w:World):(ReflectliteType.typeOf #[.iface 322 v]).run Tryz.prog w=.ok (.iface 283 (.agg #[.P 7 322])) w:=by kernel_rfl
theorem as322 (w : World) : (ReflectliteType.relation "AssignableTo" ReflectliteType.assignableTo #[.agg #[.P 7 322], .iface 283 (.agg #[.P 7 322])]).run Tryz.prog w = .ok (.bool true) w := by kernel_rfl
theorem vo322(e:Int)(w:World):(ReflectliteValue.unpack (.iface 322 (.I e))).run Tryz.prog w
 =.ok (.agg #[.P 7 322,.pointer (some ⟨w.heap.size,0,none⟩),.int .u64 130]) (w.alloc (.cells #[.I e] 322)):=by kernel_rfl
theorem eo323(w:World):(Rtype.elem? 323).run Tryz.prog w=.ok (some 322) w:=by kernel_rfl
theorem mk322(p:Addr)(w:World):(ReflectliteValue.mk 322 p ReflectliteValue.flagAddr).run Tryz.prog w=.ok (.agg #[.P 7 322,.pointer (some p),.int .u64 386]) w:=by kernel_rfl
theorem ev323(a p:Addr)(W:World)(ha:W.cell? a=some (.pointer (some p))):
 (ReflectliteValue.method (ReflectliteValue.valueError "reflectlite.Value.Elem" 0) ReflectliteValue.elem #[.agg #[.P 7 323, .pointer (some a), .int .u64 150]]).run Tryz.prog W
  =.ok (.agg #[.P 7 322,.pointer (some p),.int .u64 386]) W:=by
 rw[rlm]
 simp only[Sem.run_bind,pa323,Result.andThen]
 simp[ReflectliteValue.elem,loadVar,isAgg,underlying,Tryz.underlying323,ha,Result.andThen,eo323,mk322]
theorem pb322(a:Addr)(w:World):(ReflectliteValue.parts (.agg #[.P 7 322,.pointer (some a),.int .u64 386])).run Tryz.prog w=.ok (some (322,a,386)) w:=by kernel_rfl
theorem pa322(a:Addr)(w:World):(ReflectliteValue.parts (.agg #[.P 7 322,.pointer (some a),.int .u64 130])).run Tryz.prog w=.ok (some (322,a,130)) w:=by kernel_rfl
theorem da322(w:World):(Rtype.directlyAssignable 322 322).run Tryz.prog w=.ok true w:=by kernel_rfl
theorem se322(ta b:Addr)(e:Int)(old:Value)(W:World)(hb:W.cell? b=some (.I e))(ht:W.cell? ta=some old)(hf:W.frozen? ta=false):
 (ReflectliteValue.set #[.agg #[.P 7 322,.pointer (some ta),.int .u64 386],.agg #[.P 7 322,.pointer (some b),.int .u64 130]]).run Tryz.prog W
  =.ok (.tuple #[]) (W.setCell ta (.I e)):=by
 rw[rls]
 simp only[Sem.run_bind,pb322,pa322,Result.andThen]
 simp[ReflectliteValue.flagAddr,loadVar,isAgg,underlying,Tryz.underlying322,hb,Result.andThen,da322,storeVar,Value.cells,storeCells,Addr.add]
 rw[run_store Tryz.prog W ta _ _ (by rfl)]
 simp[ht,hf]
set_option maxHeartbeats 4000000 in
theorem hit322(t:Addr)(e:Int)(old:Value)(w:World)(hg:w.cell? ⟨1,0,none⟩=some (.iface 283 (.agg #[.P 7 127])))(ht0:w.cell? t=some old)(hf0:w.frozen? t=false):
 Calls Tryz.prog 112 #[.iface 322 (.I e),.iface 323 (.pointer (some t))] w fun ev w'=>ev=.returned (.bool true)∧w'=((((w.alloc (.cells #[.pointer (some t)] 323)).alloc (.cells #[.P 7 323,.pointer (some ⟨w.heap.size,0,none⟩),.int .u64 150] 264)).alloc (.cells #[.P 7 323,.pointer (some ⟨w.heap.size,0,none⟩),.int .u64 150] 264)).alloc (.cells #[.I e] 322)).setCell t (.I e):=by
 have x1:=@run_callFunc_extern Tryz.prog 162 _ (fun args=>ReflectliteValue.unpack (args.getD 0 (.tuple #[]))) Tryz.func162 (by kernel_rfl) (by kernel_rfl) (by kernel_rfl) (by kernel_rfl)
 have x2 := @run_callFunc_extern Tryz.prog 163 _ (ReflectliteValue.methodAny (ReflectliteValue.valueError "reflectlite.Value.Type" 0) (fun t _ _ _ => ReflectliteType.toType t)) Tryz.func163 (by kernel_rfl) (by kernel_rfl) (by kernel_rfl) (by kernel_rfl)
 have x3 := @run_callFunc_extern Tryz.prog 164 _ (ReflectliteValue.method (ReflectliteValue.valueError "reflectlite.Value.IsNil" 0) ReflectliteValue.isNil) Tryz.func164 (by kernel_rfl) (by kernel_rfl) (by kernel_rfl) (by kernel_rfl)
 have x4:=@run_callFunc_extern Tryz.prog 339 _ (ReflectliteType.abiMethod fun t=>do pure (.int .u8 (←Rtype.kind t))) Tryz.func339 (by kernel_rfl) (by kernel_rfl) (by kernel_rfl) (by kernel_rfl)
 have x5:=@run_callFunc_extern Tryz.prog 350 _ (ReflectliteType.method ReflectliteType.elem) Tryz.func350 (by kernel_rfl) (by kernel_rfl) (by kernel_rfl) (by kernel_rfl)
 have x6 := @run_callFunc_extern Tryz.prog 351 _ (ReflectliteType.relation "Implements" ReflectliteType.implements_) Tryz.func351 (by kernel_rfl) (by kernel_rfl) (by kernel_rfl) (by kernel_rfl)
 have x7:=@run_callFunc_extern Tryz.prog 123 _ ReflectliteType.typeOf Tryz.func123 (by kernel_rfl) (by kernel_rfl) (by kernel_rfl) (by kernel_rfl)
 have x8 := @run_callFunc_extern Tryz.prog 348 _ (ReflectliteType.relation "AssignableTo" ReflectliteType.assignableTo) Tryz.func348 (by kernel_rfl) (by kernel_rfl) (by kernel_rfl) (by kernel_rfl)
 have x9 := @run_callFunc_extern Tryz.prog 203 _ (ReflectliteValue.method (ReflectliteValue.valueError "reflectlite.Value.Elem" 0) ReflectliteValue.elem) Tryz.func203 (by kernel_rfl) (by kernel_rfl) (by kernel_rfl) (by kernel_rfl)
 have x10:=@run_callFunc_extern Tryz.prog 204 _ ReflectliteValue.set Tryz.func204 (by kernel_rfl) (by kernel_rfl) (by kernel_rfl) (by kernel_rfl)
 have y1:=to322
 have y2:=rAssi
 have y3:=as322
 have y4:=@vo322
 have y5:=vo323
 have y6:=ty323
 have y7:=rMeth
 have y8:=rElem
 have y9:=rImpl
 have z1:=ki323
 have z2:=ki322
 have z3:=el323
 have z4:=im322
 have n8:=ni323 ⟨w.heap.size,0,none⟩ t ((w.alloc (.cells #[.pointer (some t)] 323)).alloc (.cells #[.P 7 323,.pointer (some ⟨w.heap.size,0,none⟩),.int .u64 150] 264)) (by simp)
 have hlt:1<w.heap.size:=errT_lt hg
 have hg2:((w.alloc (.cells #[.pointer (some t)] 323)).alloc (.cells #[.P 7 323,.pointer (some ⟨w.heap.size,0,none⟩),.int .u64 150] 264)).cell? ⟨1,0,none⟩=some (.iface 283 (.agg #[.P 7 127])):=by
  rw[World.cell?_alloc_lt _ _ ⟨1,0,none⟩ (by simp;omega),World.cell?_alloc_lt _ _ ⟨1,0,none⟩ hlt];exact hg
 have htl:t.block<w.heap.size:=by
  rcases Nat.lt_or_ge t.block w.heap.size with h|h
  ·exact h
  ·simp[World.cell?,Array.getElem?_eq_none h]at ht0
 have el:=ev323 ⟨w.heap.size,0,none⟩ t (((w.alloc (.cells #[.pointer (some t)] 323)).alloc (.cells #[.P 7 323,.pointer (some ⟨w.heap.size,0,none⟩),.int .u64 150] 264)).alloc (.cells #[.P 7 323,.pointer (some ⟨w.heap.size,0,none⟩),.int .u64 150] 264)) (by rw[World.cell?_alloc_lt _ _ ⟨w.heap.size,0,none⟩ (by simp;omega)];simp)
 have st:=se322 t ⟨w.heap.size+1+1+1,0,none⟩ e old ((((w.alloc (.cells #[.pointer (some t)] 323)).alloc (.cells #[.P 7 323,.pointer (some ⟨w.heap.size,0,none⟩),.int .u64 150] 264)).alloc (.cells #[.P 7 323,.pointer (some ⟨w.heap.size,0,none⟩),.int .u64 150] 264)).alloc (.cells #[.I e] 322))
  (by rw[World.cell?_alloc_at _ _ _ _ (by simp)];rfl)
  (by rw[World.cell?_alloc_lt _ _ t (by simp;omega),World.cell?_alloc_lt _ _ t (by simp;omega),World.cell?_alloc_lt _ _ t (by simp;omega),World.cell?_alloc_lt _ _ t htl];exact ht0)
  (by rw[World.frozen?_alloc_old _ _ t (by simp;omega),World.frozen?_alloc_old _ _ t (by simp;omega),World.frozen?_alloc_old _ _ t (by simp;omega),World.frozen?_alloc_old _ _ t (Nat.ne_of_lt htl)];exact hf0)
 go_enter Tryz.func112,Tryz.ntmps112
 go_wp2
 refine wp_loop_rounds 1 ?_
 rw[rounds_succ]
 go_wp2
 go_ret
 exact⟨rfl,rfl⟩
theorem hpSetC{w0 w:World}{S:Nat→Prop}{O:List Nat}{M:Heap}{W:List OwnS}{G:List Fact}{b:Nat}{T:TypeId}{v u:Value}(H:Hp w0 S O ((b,.cells #[v] T (0,0))::M) W G w):Hp w0 S O ((b,.cells #[u] T (0,0))::M) W G (w.setCell ⟨b,0,none⟩ u):=by
 have h1:=(H.own _ (List.mem_cons_self ..)).1
 have e:(w.setCell ⟨b,0,none⟩ u).heap=w.heap.setIfInBounds b (.cells #[u] T (0,0)):=by
  apply Array.ext_getElem?
  intro i
  by_cases hi:i=b
  · subst hi
    rw[one_setCell h1, Array.getElem?_setIfInBounds_self_of_lt (lt_of_block h1)]
  · rw[Array.getElem?_setIfInBounds_ne (Ne.symm hi)]
    exact Below.heap_setCell w ⟨b, 0,none⟩ u i hi
 have e2:w.setCell ⟨b,0,none⟩ u={w with heap:=w.heap.setIfInBounds b (.cells #[u] T (0,0))}:=by
  rw[←e];rfl
 rw[e2]
 exact H.put 0 rfl _
theorem as_wire{w0 w:World}{S:Nat→Prop}{O:List Nat}{M:Heap}{W:List OwnS}{G:List Fact}{b:Nat}{old e:Int}(H:Hp w0 S O ((b,.cells #[.I old] 322 (0,0))::M) W G w)(hq:jQ w):Calls Tryz.prog 112 #[.iface 322 (.I e),.iface 323 (.P b 0)] w (Ret fun v w'=>v=.bool true∧Hp w0 S O ((b,.cells #[.I e] 322 (0,0))::M) W G w'):=by
 have h1:=(H.own _ (List.mem_cons_self ..)).1
 refine(hit322 ⟨b,0,none⟩ e (.I old) w hq.1 (cell_of_one h1) (free_of_one h1)).mono fun ev w' hw=>?_
 obtain⟨rfl,rfl⟩:=hw
 refine⟨_,rfl,rfl,?_⟩
 have H2:=((((H.alloc (.cells #[.P b 0] 323 (0,0))).alloc (.cells #[.P 7 323,.pointer (some ⟨w.heap.size,0,none⟩),.int .u64 150] 264 (0,0))).alloc (.cells #[.P 7 323,.pointer (some ⟨w.heap.size,0,none⟩),.int .u64 150] 264 (0,0))).alloc (.cells #[.I e] 322 (0,0)))
 have H3:=(((H2.dropM 0).dropM 0).dropM 0).dropM 0
 exact hpSetC H3
theorem isTypeOf(v:Value)(w:World):(ReflectliteType.typeOf #[.iface 437 v]).run Tryz.prog w=.ok (.iface 283 (.agg #[.P 7 437])) w:=by kernel_rfl
theorem isComparable (w : World) : ((ReflectliteType.method fun t => do Rtype.noPackHeld "Comparable" t; (fun a => Value.bool a.comparable) <$> typeInfo t) #[.agg #[.P 7 437]]).run Tryz.prog w = .ok (.bool true) w := by kernel_rfl
theorem isComp:(Tryz.prog.info? 437).map (·.comparable)=some true:=by kernel_rfl
theorem isSize:(Tryz.prog.info? 439).map (·.size)=some 1:=by kernel_rfl
theorem noIsR(v:Value)(xT:TypeId)(w:World):(Instr.typeAssert (.iface 200 v) xT 285 true).run Tryz.prog w=.ok (.tuple #[.nilIface,.bool false]) w:=run_typeAssert_lacksB Tryz.underlying285 (by kernel_rfl) (by kernel_rfl) v xT w
theorem hasUnwrapR(v:Value)(xT:TypeId)(w:World):(Instr.typeAssert (.iface 200 v) xT 288 true).run Tryz.prog w=.ok (.tuple #[.iface 200 v,.bool true]) w:=run_typeAssert_hasB Tryz.underlying288 (by kernel_rfl) v xT w
theorem methodUnwrapR (v : Value) (w : World) : (Go.method 584 200 v "Unwrap").run Tryz.prog w = .ok (343, v) w := by kernel_rfl
set_option maxHeartbeats 1000000 in
theorem is_told(eb:Nat)(e0:Addr)(w:World)(h1:w.cell? ⟨eb,0,none⟩=some (.I 70))(h0:w.cell? ⟨0,0,none⟩=some (.iface 437 (.pointer (some e0)))):
 Calls Tryz.prog 71 #[.iface 200 (.P eb 0),.iface 437 (.pointer (some e0))] w fun e w'=>e=.returned (.bool true)∧w'=w:=by
 obtain⟨i,hi,hcmp⟩:=Option.map_eq_some_iff.1 isComp
 obtain⟨j,hj,hjs⟩:=Option.map_eq_some_iff.1 isSize
 have x1:=@run_callFunc_extern Tryz.prog 123 _ ReflectliteType.typeOf Tryz.func123 (by kernel_rfl) (by kernel_rfl) (by kernel_rfl) (by kernel_rfl)
 have x2 := @run_callFunc_extern Tryz.prog 349 _ (ReflectliteType.method fun t => do Rtype.noPackHeld "Comparable" t; pure (.bool (← typeInfo t).comparable)) Tryz.func349 (by kernel_rfl) (by kernel_rfl) (by kernel_rfl) (by kernel_rfl)
 have y1:=isTypeOf
 have y2:=isComparable
 have y3:=rComp
 have y4:=noIsR
 have y5:=hasUnwrapR
 have y6:=methodUnwrapR
 have heq:=run_eql_iface_ptr_same (P:=Tryz.prog) w e0 Tryz.underlying127 Tryz.underlying437 hi hcmp hj
 have hty:=run_eql_iface_types (P:=Tryz.prog) 200 437 (.P eb 0) (.pointer (some e0)) Tryz.underlying127 (by decide) w
 go_enter Tryz.func71,Tryz.ntmps71
 go_wp2
 refine wp_loop_rounds 2 ?_
 rw[rounds_succ]
 go_wp2
 rw[rounds_succ]
 go_wp2
 go_ret
 exact⟨rfl,rfl⟩
theorem is_stop{w0 w:World}{S:Nat→Prop}{O:List Nat}{M:Heap}{W:List OwnS}{G:List Fact}{eb:Nat}{T:TypeId}(H:Hp w0 S O ((eb,.cells #[.I 70] T (0,0))::M) W G w){v:Value}(hv:w.cell? ⟨0,0,none⟩=some v)(hq:jQ w):Calls Tryz.prog 71 #[.iface 200 (.P eb 0),v] w (Ret fun v w'=>Ext w w'∧v=.bool true):=by
 obtain⟨e0,h0⟩:=hq.2.1
 rw[h0]at hv
 injection hv with hv
 subst hv
 refine(is_told eb e0 w (cell_of_one (H.own _ (List.mem_cons_self ..)).1) h0).mono fun e w' hh=>?_
 obtain⟨rfl,rfl⟩:=hh
 exact⟨_,rfl,Ext.refl _,rfl⟩
theorem stop_c{w:World}(hq:jQ w):Calls Tryz.prog 111 #[] w (Ret fun v w'=>Ext w w'∧w'.cell? ⟨0,0,none⟩=some v):=by
 obtain⟨e0,h0⟩:=hq.2.1
 refine Calls.mono (R:=fun e w'=>e=.returned (.iface 437 (.pointer (some e0)))∧w'=w) ?_ fun e w' hh=>?_
 · go_enter Tryz.func111, Tryz.ntmps111
   go_wp2
   go_ret
   exact⟨rfl, rfl⟩
 · obtain⟨rfl,rfl⟩:=hh
   exact⟨_,rfl,Ext.refl _,h0⟩
end Go.Proofs.YtdnibpclkhenmaaGreatDoor
