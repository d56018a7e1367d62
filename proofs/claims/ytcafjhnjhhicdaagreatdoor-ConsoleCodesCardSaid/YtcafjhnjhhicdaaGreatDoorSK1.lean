import Derived.Test.YtcafjhnjhhicdaaGreatDoorSK0
namespace Go.Proofs.YtcafjhnjhhicdaaGreatDoor
open Go.BX
open Go.RowKit Go.Extern.Stop Go.Stop Go.Extern
theorem rlm(z:Sem Value)(f:TypeId→Addr→Nat→Nat→Sem Value)(v:Value):
 ReflectliteValue.method z f #[v]=(do match←ReflectliteValue.parts v with|none=>z|some (t,a,fl)=>f t a fl (fl%32)):=rfl
theorem rls(v x:Value):ReflectliteValue.set #[v,x]=(do
 let(some (dst,a,fl),some (src,b,_)):=(←ReflectliteValue.parts v,←ReflectliteValue.parts x)
  | unsupported (.noEntry "extern/(internal/reflectlite.Value).Set.zeroValue")
 if fl / ReflectliteValue.flagAddr % 2 == 0 then unsupported (.noEntry "extern/(internal/reflectlite.Value).Set.unaddressable")
 let val←loadVar src b
 if←Rtype.directlyAssignable dst src then storeVar dst a val
 else if←Rtype.implements dst src then
  if(←Rtype.kind src)==20 then
   match val with
   | .nilIface => unsupported (.noEntry "extern/reflectlite: a nil value of one interface type handed on as a value of another")
   |_=>storeVar dst a val
  else storeVar dst a (.iface src val)
 else panicString ("reflectlite.Set: value of type " ++ (← Rtype.spelt src) ++ " is not assignable to type " ++ (← Rtype.spelt dst))
 pure (.tuple #[])):=rfl
theorem rMeth (h : Value) (w : World) : (Go.method 504 126 (.agg #[h]) "Kind").run Tryz.prog w = .ok (307, h) w := by kernel_rfl
theorem rElem (h : Value) (w : World) : (Go.method 504 126 (.agg #[h]) "Elem").run Tryz.prog w = .ok (316, .agg #[h]) w := by kernel_rfl
theorem rImpl (h : Value) (w : World) : (Go.method 504 126 (.agg #[h]) "Implements").run Tryz.prog w = .ok (317, .agg #[h]) w := by kernel_rfl
theorem rAssi (h : Value) (w : World) : (Go.method 504 126 (.agg #[h]) "AssignableTo").run Tryz.prog w = .ok (314, .agg #[h]) w := by kernel_rfl
theorem errT_lt{w:World}{v:Value}{b:Nat}(h:w.cell? ⟨b,0,none⟩=some v):b<w.heap.size:=by
 rcases Nat.lt_or_ge b w.heap.size with h1|h1
 ·exact h1
 ·simp[World.cell?,Array.getElem?_eq_none h1]at h
theorem vo52(t:Addr)(w:World):(ReflectliteValue.unpack (.iface 52 (.pointer (some t)))).run Tryz.prog w
 =.ok (.agg #[.P 9 52,.pointer (some ⟨w.heap.size,0,none⟩),.int .u64 150]) (w.alloc (.cells #[.pointer (some t)] 52)):=by kernel_rfl
theorem ty52 (a : Addr) (w : World) : (ReflectliteValue.methodAny (ReflectliteValue.valueError "reflectlite.Value.Type" 0) (fun t _ _ _ => ReflectliteType.toType t) #[.agg #[.P 9 52, .pointer (some a), .int .u64 150]]).run Tryz.prog w
 =.ok (.iface 126 (.agg #[.P 9 52])) w:=by kernel_rfl
theorem ki52(w:World):((ReflectliteType.abiMethod fun t=>(fun a:Nat=>Value.int IntKind.u8 (a:Int))<$>Rtype.kind t) #[.P 9 52]).run Tryz.prog w=.ok (.int .u8 22) w:=by kernel_rfl
theorem ki46(w:World):((ReflectliteType.abiMethod fun t=>(fun a:Nat=>Value.int IntKind.u8 (a:Int))<$>Rtype.kind t) #[.P 9 46]).run Tryz.prog w=.ok (.int .u8 2) w:=by kernel_rfl
theorem pa52(a:Addr)(w:World):(ReflectliteValue.parts (.agg #[.P 9 52,.pointer (some a),.int .u64 150])).run Tryz.prog w=.ok (some (52,a,150)) w:=by kernel_rfl
theorem ni52(a p:Addr)(W:World)(ha:W.cell? a=some (.pointer (some p))):
 (ReflectliteValue.method (ReflectliteValue.valueError "reflectlite.Value.IsNil" 0) ReflectliteValue.isNil #[.agg #[.P 9 52, .pointer (some a), .int .u64 150]]).run Tryz.prog W = .ok (.bool false) W := by
 rw[rlm]
 simp only[Sem.run_bind,pa52,Result.andThen]
 simp[ReflectliteValue.isNil,loadVar,isAgg,underlying,Tryz.underlying52,ha,Result.andThen]
theorem el52(w:World):(ReflectliteType.method ReflectliteType.elem #[.agg #[.P 9 52]]).run Tryz.prog w=.ok (.iface 126 (.agg #[.P 9 46])) w:=by kernel_rfl
theorem im46 (w : World) : (ReflectliteType.relation "Implements" ReflectliteType.implements_ #[.agg #[.P 9 46], .iface 126 (.agg #[.P 9 49])]).run Tryz.prog w = .ok (.bool true) w := by kernel_rfl
theorem to46(v:Value)(w:World):(ReflectliteType.typeOf #[.iface 46 v]).run Tryz.prog w=.ok (.iface 126 (.agg #[.P 9 46])) w:=by kernel_rfl
theorem as46 (w : World) : (ReflectliteType.relation "AssignableTo" ReflectliteType.assignableTo #[.agg #[.P 9 46], .iface 126 (.agg #[.P 9 46])]).run Tryz.prog w = .ok (.bool true) w := by kernel_rfl
theorem vo46(e:Int)(w:World):(ReflectliteValue.unpack (.iface 46 (.I e))).run Tryz.prog w
 =.ok (.agg #[.P 9 46,.pointer (some ⟨w.heap.size,0,none⟩),.int .u64 130]) (w.alloc (.cells #[.I e] 46)):=by kernel_rfl
theorem eo52(w:World):(Rtype.elem? 52).run Tryz.prog w=.ok (some 46) w:=by kernel_rfl
theorem mk46(p:Addr)(w:World):(ReflectliteValue.mk 46 p ReflectliteValue.flagAddr).run Tryz.prog w=.ok (.agg #[.P 9 46,.pointer (some p),.int .u64 386]) w:=by kernel_rfl
theorem ev52(a p:Addr)(W:World)(ha:W.cell? a=some (.pointer (some p))):
 (ReflectliteValue.method (ReflectliteValue.valueError "reflectlite.Value.Elem" 0) ReflectliteValue.elem #[.agg #[.P 9 52, .pointer (some a), .int .u64 150]]).run Tryz.prog W
  =.ok (.agg #[.P 9 46,.pointer (some p),.int .u64 386]) W:=by
 rw[rlm]
 simp only[Sem.run_bind,pa52,Result.andThen]
 simp[ReflectliteValue.elem,loadVar,isAgg,underlying,Tryz.underlying52,ha,Result.andThen,eo52,mk46]
theorem pb46(a:Addr)(w:World):(ReflectliteValue.parts (.agg #[.P 9 46,.pointer (some a),.int .u64 386])).run Tryz.prog w=.ok (some (46,a,386)) w:=by kernel_rfl
theorem pa46(a:Addr)(w:World):(ReflectliteValue.parts (.agg #[.P 9 46,.pointer (some a),.int .u64 130])).run Tryz.prog w=.ok (some (46,a,130)) w:=by kernel_rfl
theorem da46(w:World):(Rtype.directlyAssignable 46 46).run Tryz.prog w=.ok true w:=by kernel_rfl
theorem se46(ta b:Addr)(e:Int)(old:Value)(W:World)(hb:W.cell? b=some (.I e))(ht:W.cell? ta=some old)(hf:W.frozen? ta=false):
 (ReflectliteValue.set #[.agg #[.P 9 46,.pointer (some ta),.int .u64 386],.agg #[.P 9 46,.pointer (some b),.int .u64 130]]).run Tryz.prog W
  =.ok (.tuple #[]) (W.setCell ta (.I e)):=by
 rw[rls]
 simp only[Sem.run_bind,pb46,pa46,Result.andThen]
 simp[ReflectliteValue.flagAddr,loadVar,isAgg,underlying,Tryz.underlying46,hb,Result.andThen,da46,storeVar,Value.cells,storeCells,Addr.add]
 rw[run_store Tryz.prog W ta _ _ (by rfl)]
 simp[ht,hf]
set_option maxHeartbeats 4000000 in
theorem hit46(t:Addr)(e:Int)(old:Value)(w:World)(hg:w.cell? ⟨0,0,none⟩=some (.iface 126 (.agg #[.P 9 49])))(ht0:w.cell? t=some old)(hf0:w.frozen? t=false):
 Calls Tryz.prog 13 #[.iface 46 (.I e),.iface 52 (.pointer (some t))] w fun ev w'=>ev=.returned (.bool true)∧w'=((((w.alloc (.cells #[.pointer (some t)] 52)).alloc (.cells #[.P 9 52,.pointer (some ⟨w.heap.size,0,none⟩),.int .u64 150] 58)).alloc (.cells #[.P 9 52,.pointer (some ⟨w.heap.size,0,none⟩),.int .u64 150] 58)).alloc (.cells #[.I e] 46)).setCell t (.I e):=by
 have x1:=@run_callFunc_extern Tryz.prog 32 _ (fun args=>ReflectliteValue.unpack (args.getD 0 (.tuple #[]))) Tryz.func32 (by kernel_rfl) (by kernel_rfl) (by kernel_rfl) (by kernel_rfl)
 have x2 := @run_callFunc_extern Tryz.prog 33 _ (ReflectliteValue.methodAny (ReflectliteValue.valueError "reflectlite.Value.Type" 0) (fun t _ _ _ => ReflectliteType.toType t)) Tryz.func33 (by kernel_rfl) (by kernel_rfl) (by kernel_rfl) (by kernel_rfl)
 have x3 := @run_callFunc_extern Tryz.prog 34 _ (ReflectliteValue.method (ReflectliteValue.valueError "reflectlite.Value.IsNil" 0) ReflectliteValue.isNil) Tryz.func34 (by kernel_rfl) (by kernel_rfl) (by kernel_rfl) (by kernel_rfl)
 have x4:=@run_callFunc_extern Tryz.prog 307 _ (ReflectliteType.abiMethod fun t=>do pure (.int .u8 (←Rtype.kind t))) Tryz.func307 (by kernel_rfl) (by kernel_rfl) (by kernel_rfl) (by kernel_rfl)
 have x5:=@run_callFunc_extern Tryz.prog 316 _ (ReflectliteType.method ReflectliteType.elem) Tryz.func316 (by kernel_rfl) (by kernel_rfl) (by kernel_rfl) (by kernel_rfl)
 have x6 := @run_callFunc_extern Tryz.prog 317 _ (ReflectliteType.relation "Implements" ReflectliteType.implements_) Tryz.func317 (by kernel_rfl) (by kernel_rfl) (by kernel_rfl) (by kernel_rfl)
 have x7:=@run_callFunc_extern Tryz.prog 61 _ ReflectliteType.typeOf Tryz.func61 (by kernel_rfl) (by kernel_rfl) (by kernel_rfl) (by kernel_rfl)
 have x8 := @run_callFunc_extern Tryz.prog 314 _ (ReflectliteType.relation "AssignableTo" ReflectliteType.assignableTo) Tryz.func314 (by kernel_rfl) (by kernel_rfl) (by kernel_rfl) (by kernel_rfl)
 have x9 := @run_callFunc_extern Tryz.prog 62 _ (ReflectliteValue.method (ReflectliteValue.valueError "reflectlite.Value.Elem" 0) ReflectliteValue.elem) Tryz.func62 (by kernel_rfl) (by kernel_rfl) (by kernel_rfl) (by kernel_rfl)
 have x10:=@run_callFunc_extern Tryz.prog 63 _ ReflectliteValue.set Tryz.func63 (by kernel_rfl) (by kernel_rfl) (by kernel_rfl) (by kernel_rfl)
 have y1:=to46
 have y2:=rAssi
 have y3:=as46
 have y4:=@vo46
 have y5:=vo52
 have y6:=ty52
 have y7:=rMeth
 have y8:=rElem
 have y9:=rImpl
 have z1:=ki52
 have z2:=ki46
 have z3:=el52
 have z4:=im46
 have n8:=ni52 ⟨w.heap.size,0,none⟩ t ((w.alloc (.cells #[.pointer (some t)] 52)).alloc (.cells #[.P 9 52,.pointer (some ⟨w.heap.size,0,none⟩),.int .u64 150] 58)) (by simp)
 have hlt:0<w.heap.size:=errT_lt hg
 have hg2:((w.alloc (.cells #[.pointer (some t)] 52)).alloc (.cells #[.P 9 52,.pointer (some ⟨w.heap.size,0,none⟩),.int .u64 150] 58)).cell? ⟨0,0,none⟩=some (.iface 126 (.agg #[.P 9 49])):=by
  rw[World.cell?_alloc_lt _ _ ⟨0,0,none⟩ (by simp<;>omega),World.cell?_alloc_lt _ _ ⟨0,0,none⟩ hlt];exact hg
 have htl:t.block<w.heap.size:=by
  rcases Nat.lt_or_ge t.block w.heap.size with h|h
  ·exact h
  ·simp[World.cell?,Array.getElem?_eq_none h]at ht0
 have el:=ev52 ⟨w.heap.size,0,none⟩ t (((w.alloc (.cells #[.pointer (some t)] 52)).alloc (.cells #[.P 9 52,.pointer (some ⟨w.heap.size,0,none⟩),.int .u64 150] 58)).alloc (.cells #[.P 9 52,.pointer (some ⟨w.heap.size,0,none⟩),.int .u64 150] 58)) (by rw[World.cell?_alloc_lt _ _ ⟨w.heap.size,0,none⟩ (by simp<;>omega)];simp)
 have st:=se46 t ⟨w.heap.size+1+1+1,0,none⟩ e old ((((w.alloc (.cells #[.pointer (some t)] 52)).alloc (.cells #[.P 9 52,.pointer (some ⟨w.heap.size,0,none⟩),.int .u64 150] 58)).alloc (.cells #[.P 9 52,.pointer (some ⟨w.heap.size,0,none⟩),.int .u64 150] 58)).alloc (.cells #[.I e] 46))
  (by rw[World.cell?_alloc_at _ _ _ _ (by simp)];rfl)
  (by rw[World.cell?_alloc_lt _ _ t (by simp<;>omega),World.cell?_alloc_lt _ _ t (by simp<;>omega),World.cell?_alloc_lt _ _ t (by simp<;>omega),World.cell?_alloc_lt _ _ t htl];exact ht0)
  (by rw[World.frozen?_alloc_old _ _ t (by simp<;>omega),World.frozen?_alloc_old _ _ t (by simp<;>omega),World.frozen?_alloc_old _ _ t (by simp<;>omega),World.frozen?_alloc_old _ _ t (Nat.ne_of_lt htl)];exact hf0)
 go_enter Tryz.func13,Tryz.ntmps13
 go_wp2
 refine wp_loop_rounds 1 ?_
 rw[rounds_succ]
 go_wp2
 go_ret
 exact⟨rfl,rfl⟩
theorem hpSetC{w0 w:World}{S:Nat→Prop}{O:List Nat}{M:Heap}{W:List OwnS}{G:List Fact}{b:Nat}{T:TypeId}{v u:Value}(H:Hp w0 S O ((b,.cells #[v] T (0,0))::M) W G w):Hp w0 S O ((b,.cells #[u] T (0,0))::M) W G (w.setCell ⟨b,0,none⟩ u):=by
 have h1:=(H.own _ (List.mem_cons_self ..)).1
 have e:(w.setCell ⟨b,0,none⟩ u).heap=w.heap.setIfInBounds b (.cells #[u] T (0,0)):=by
  apply Array.ext_getElem?
  intro i
  by_cases hi:i=b
  · subst hi
    rw[one_setCell h1, Array.getElem?_setIfInBounds_self_of_lt (lt_of_block h1)]
  · rw[Array.getElem?_setIfInBounds_ne (Ne.symm hi)]
    exact Below.heap_setCell w ⟨b, 0,none⟩ u i hi
 have e2:w.setCell ⟨b,0,none⟩ u={w with heap:=w.heap.setIfInBounds b (.cells #[u] T (0,0))}:=by
  rw[←e];rfl
 rw[e2]
 exact H.put 0 rfl _
theorem as_ref{w0 w:World}{S:Nat→Prop}{O:List Nat}{M:Heap}{W:List OwnS}{G:List Fact}{b:Nat}{old e:Int}(H:Hp w0 S O ((b,.cells #[.I old] 46 (0,0))::M) W G w)(hq:cQ w):Calls Tryz.prog 13 #[.iface 46 (.I e),.iface 52 (.P b 0)] w (Ret fun v w'=>v=.bool true∧Hp w0 S O ((b,.cells #[.I e] 46 (0,0))::M) W G w'):=by
 have h1:=(H.own _ (List.mem_cons_self ..)).1
 refine(hit46 ⟨b,0,none⟩ e (.I old) w hq.1 (cell_of_one h1) (free_of_one h1)).mono fun ev w' hw=>?_
 obtain⟨rfl,rfl⟩:=hw
 refine⟨_,rfl,rfl,?_⟩
 have H2:=((((H.alloc (.cells #[.P b 0] 52 (0,0))).alloc (.cells #[.P 9 52,.pointer (some ⟨w.heap.size,0,none⟩),.int .u64 150] 58 (0,0))).alloc (.cells #[.P 9 52,.pointer (some ⟨w.heap.size,0,none⟩),.int .u64 150] 58 (0,0))).alloc (.cells #[.I e] 46 (0,0)))
 have H3:=(((H2.dropM 0).dropM 0).dropM 0).dropM 0
 exact hpSetC H3
end Go.Proofs.YtcafjhnjhhicdaaGreatDoor
