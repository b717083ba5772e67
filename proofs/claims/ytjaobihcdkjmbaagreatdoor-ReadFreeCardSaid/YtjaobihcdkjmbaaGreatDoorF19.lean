/- The law ReadFree answers true for every argument; a part of its proof. -/
import Derived.Test.YtjaobihcdkjmbaaGreatDoorF10
import Derived.Test.YtjaobihcdkjmbaaGreatDoorF11
import Derived.Test.YtjaobihcdkjmbaaGreatDoorF15
import Derived.Test.YtjaobihcdkjmbaaGreatDoorF18
set_option linter.unusedVariables false
set_option linter.unusedSimpArgs false
section
namespace Go.Proofs.YtjaobihcdkjmbaaGreatDoor
open Go.RowKit Go.Extern.Stop Go.Stop Go.Extern Go.Proofs.YtjaobihcdkjmbaaGreatDoorW.PrintWords Go.Proofs.YtjaobihcdkjmbaaGreatDoor.PReadTokens
theorem As.valueOf160 (t:Addr) (w:World):(ReflectliteValue.unpack (.iface 160 (.pointer (some t)))).run Tryz.prog w
  = .ok (.agg #[.pointer (some ⟨7,160,none⟩),.pointer (some ⟨w.heap.size,0,none⟩),.int .u64 150]) (w.alloc (.cells #[.pointer (some t)] 160)):=by kernel_rfl
theorem As.type160 (a : Addr) (w : World) : (ReflectliteValue.methodAny (ReflectliteValue.valueError "reflectlite.Value.Type" 0) (fun t _ _ _ => ReflectliteType.toType t) #[.agg #[.pointer (some ⟨7, 160, none⟩), .pointer (some a), .int .u64 150]]).run Tryz.prog w
  = .ok (.iface 209 (.agg #[.pointer (some ⟨7,160,none⟩)])) w:=by kernel_rfl
theorem As.kind160 (w:World):((ReflectliteType.abiMethod fun t=>(fun a:Nat=>Value.int IntKind.u8 (a:Int)) <$> Rtype.kind t) #[.pointer (some ⟨7,160,none⟩)]).run Tryz.prog w=.ok (.int .u8 22) w:=by kernel_rfl
theorem As.kind159 (w:World):((ReflectliteType.abiMethod fun t=>(fun a:Nat=>Value.int IntKind.u8 (a:Int)) <$> Rtype.kind t) #[.pointer (some ⟨7,159,none⟩)]).run Tryz.prog w=.ok (.int .u8 25) w:=by kernel_rfl
theorem As.parts160 (a:Addr) (w:World):(ReflectliteValue.parts (.agg #[.pointer (some ⟨7,160,none⟩),.pointer (some a),.int .u64 150])).run Tryz.prog w=.ok (some (160,a,150)) w:=by kernel_rfl
theorem As.isNil160 (a p:Addr) (W:World) (ha:W.cell? a=some (.pointer (some p))) :
  (ReflectliteValue.method (ReflectliteValue.valueError "reflectlite.Value.IsNil" 0) ReflectliteValue.isNil #[.agg #[.pointer (some ⟨7, 160, none⟩), .pointer (some a), .int .u64 150]]).run Tryz.prog W = .ok (.bool false) W := by
 rw [As.rlm]
 simp only [Sem.run_bind,As.parts160,Result.andThen]
 simp [ReflectliteValue.isNil,loadVar,isAgg,underlying,Tryz.underlying160,ha,Result.andThen]
theorem As.elem160 (w:World):(ReflectliteType.method ReflectliteType.elem #[.agg #[.pointer (some ⟨7,160,none⟩)]]).run Tryz.prog w=.ok (.iface 209 (.agg #[.pointer (some ⟨7,159,none⟩)])) w:=by kernel_rfl
theorem As.implements159 (w : World) : (ReflectliteType.relation "Implements" ReflectliteType.implements_ #[.agg #[.pointer (some ⟨7, 159, none⟩)], .iface 209 (.agg #[.pointer (some ⟨7, 134, none⟩)])]).run Tryz.prog w = .ok (.bool true) w := by kernel_rfl
theorem As.typeOf159 (v:Value) (w:World):(ReflectliteType.typeOf #[.iface 159 v]).run Tryz.prog w=.ok (.iface 209 (.agg #[.pointer (some ⟨7,159,none⟩)])) w:=by kernel_rfl
theorem As.assignable159 (w : World) : (ReflectliteType.relation "AssignableTo" ReflectliteType.assignableTo #[.agg #[.pointer (some ⟨7, 159, none⟩)], .iface 209 (.agg #[.pointer (some ⟨7, 159, none⟩)])]).run Tryz.prog w = .ok (.bool true) w := by kernel_rfl
theorem As.valueOf159 (n:Int) (w:World):(ReflectliteValue.unpack (.iface 159 (.agg #[.int .i64 n]))).run Tryz.prog w
  = .ok (.agg #[.pointer (some ⟨7,159,none⟩),.pointer (some ⟨w.heap.size,0,none⟩),.int .u64 153]) (w.alloc (.cells #[.int .i64 n] 159)):=by kernel_rfl
theorem As.elemOf160 (w:World):(Rtype.elem? 160).run Tryz.prog w=.ok (some 159) w:=by kernel_rfl
theorem As.mk159 (p:Addr) (w:World):(ReflectliteValue.mk 159 p ReflectliteValue.flagAddr).run Tryz.prog w=.ok (.agg #[.pointer (some ⟨7,159,none⟩),.pointer (some p),.int .u64 409]) w:=by kernel_rfl
theorem As.elemV160 (a p:Addr) (W:World) (ha:W.cell? a=some (.pointer (some p))) :
  (ReflectliteValue.method (ReflectliteValue.valueError "reflectlite.Value.Elem" 0) ReflectliteValue.elem #[.agg #[.pointer (some ⟨7, 160, none⟩), .pointer (some a), .int .u64 150]]).run Tryz.prog W
   = .ok (.agg #[.pointer (some ⟨7,159,none⟩),.pointer (some p),.int .u64 409]) W:=by
 rw [As.rlm]
 simp only [Sem.run_bind,As.parts160,Result.andThen]
 simp [ReflectliteValue.elem,loadVar,isAgg,underlying,Tryz.underlying160,ha,Result.andThen,As.elemOf160,As.mk159]
theorem As.parts159a (a:Addr) (w:World):(ReflectliteValue.parts (.agg #[.pointer (some ⟨7,159,none⟩),.pointer (some a),.int .u64 409])).run Tryz.prog w=.ok (some (159,a,409)) w:=by kernel_rfl
theorem As.parts159 (a:Addr) (w:World):(ReflectliteValue.parts (.agg #[.pointer (some ⟨7,159,none⟩),.pointer (some a),.int .u64 153])).run Tryz.prog w=.ok (some (159,a,153)) w:=by kernel_rfl
theorem As.direct159 (w:World):(Rtype.directlyAssignable 159 159).run Tryz.prog w=.ok true w:=by kernel_rfl
theorem As.info159:(Tryz.prog.info? 159).map (·.size)=some 1:=by kernel_rfl
theorem As.set159 (ta:Nat) (b:Nat) (n:Int) (cs0:Array Value) (old:Value) (t0:TypeId) (W:World) (hb:W.heap[b]?=some (.cells #[.int .i64 n] 159 (0,0))) (ht:W.heap[ta]?=some (.cells #[old] 159 (0,0))) :
  (ReflectliteValue.set #[.agg #[.pointer (some ⟨7,159,none⟩),.pointer (some ⟨ta,0,none⟩),.int .u64 409],.agg #[.pointer (some ⟨7,159,none⟩),.pointer (some ⟨b,0,none⟩),.int .u64 153]]).run Tryz.prog W
   = .ok (.tuple #[]) (W.setCell ⟨ta,0,none⟩ (.int .i64 n)):=by
 rw [As.rls]
 have hl:=run_loadVar_row (P:=Tryz.prog) W b 159 159 #[.int .i64 n] (0,0) _ hb Tryz.underlying159 rfl As.info159
 have c:=blk_cell ht 0
 have f:=blk_frozen ht 0
 simp only [Sem.run_bind,As.parts159a,As.parts159,Result.andThen]
 simp [ReflectliteValue.flagAddr,hl,Result.andThen,As.direct159,storeVar,Value.cells,storeCells,Addr.add]
 rw [run_store Tryz.prog W _ _ _ (by rfl)]
 have c':W.cell? ⟨ta,0,none⟩=some old:=c
 simp [c',f]
set_option maxRecDepth 100000 in
set_option maxHeartbeats 4000000 in
theorem as_hit159 (n:Int) (ta:Nat) (old:Value) (w:World) (hg:w.cell? ⟨0,0,none⟩=some (.iface 209 (.agg #[.pointer (some ⟨7,134,none⟩)]))) (ht:w.heap[ta]?=some (.cells #[old] 159 (0,0))) :
  Calls Tryz.prog 91 #[.iface 159 (.agg #[.int .i64 n]),.iface 160 (.pointer (some ⟨ta,0,none⟩))] w fun e w'=>e=.returned (.bool true)∧∃ W,Below w.heap.size w W∧w'=W.setCell ⟨ta,0,none⟩ (.int .i64 n):=by
 have h129:=@run_callFunc_extern Tryz.prog 129 _ (fun args=>ReflectliteValue.unpack (args.getD 0 (.tuple #[]))) Tryz.func129 (by kernel_rfl) (by kernel_rfl) (by kernel_rfl) (by kernel_rfl)
 have h130 := @run_callFunc_extern Tryz.prog 130 _ (ReflectliteValue.methodAny (ReflectliteValue.valueError "reflectlite.Value.Type" 0) (fun t _ _ _ => ReflectliteType.toType t)) Tryz.func130 (by kernel_rfl) (by kernel_rfl) (by kernel_rfl) (by kernel_rfl)
 have h131 := @run_callFunc_extern Tryz.prog 131 _ (ReflectliteValue.method (ReflectliteValue.valueError "reflectlite.Value.IsNil" 0) ReflectliteValue.isNil) Tryz.func131 (by kernel_rfl) (by kernel_rfl) (by kernel_rfl) (by kernel_rfl)
 have h304:=@run_callFunc_extern Tryz.prog 304 _ (ReflectliteType.abiMethod fun t=>do pure (.int .u8 (← Rtype.kind t))) Tryz.func304 (by kernel_rfl) (by kernel_rfl) (by kernel_rfl) (by kernel_rfl)
 have h320:=@run_callFunc_extern Tryz.prog 320 _ (ReflectliteType.method ReflectliteType.elem) Tryz.func320 (by kernel_rfl) (by kernel_rfl) (by kernel_rfl) (by kernel_rfl)
 have h321 := @run_callFunc_extern Tryz.prog 321 _ (ReflectliteType.relation "Implements" ReflectliteType.implements_) Tryz.func321 (by kernel_rfl) (by kernel_rfl) (by kernel_rfl) (by kernel_rfl)
 have h153:=@run_callFunc_extern Tryz.prog 153 _ ReflectliteType.typeOf Tryz.func153 (by kernel_rfl) (by kernel_rfl) (by kernel_rfl) (by kernel_rfl)
 have h318 := @run_callFunc_extern Tryz.prog 318 _ (ReflectliteType.relation "AssignableTo" ReflectliteType.assignableTo) Tryz.func318 (by kernel_rfl) (by kernel_rfl) (by kernel_rfl) (by kernel_rfl)
 have h154 := @run_callFunc_extern Tryz.prog 154 _ (ReflectliteValue.method (ReflectliteValue.valueError "reflectlite.Value.Elem" 0) ReflectliteValue.elem) Tryz.func154 (by kernel_rfl) (by kernel_rfl) (by kernel_rfl) (by kernel_rfl)
 have h155:=@run_callFunc_extern Tryz.prog 155 _ ReflectliteValue.set Tryz.func155 (by kernel_rfl) (by kernel_rfl) (by kernel_rfl) (by kernel_rfl)
 have tO:=As.typeOf159
 have mA:=As.methodAssignableTo
 have a25:=As.assignable159
 have v25:=As.valueOf159
 have f6:=As.valueOf160
 have f7:=As.type160
 have mK:=As.methodKind
 have mE:=As.methodElem
 have mI:=As.methodImplements
 have k27:=As.kind160
 have k25:=As.kind159
 have e27:=As.elem160
 have i25:=As.implements159
 have htl:=blk_lt ht
 have hlt:0 < w.heap.size:=by omega
 obtain ⟨V,hV⟩:∃ V:Obj,V=.cells #[.pointer (some ⟨7,160,none⟩),.pointer (some ⟨w.heap.size,0,none⟩),.int .u64 150] 183:=⟨_,rfl⟩
 have n8:=As.isNil160 ⟨w.heap.size,0,none⟩ ⟨ta,0,none⟩ ((w.alloc (.cells #[.pointer (some ⟨ta,0,none⟩)] 160)).alloc (.cells #[.pointer (some ⟨7,160,none⟩),.pointer (some ⟨w.heap.size,0,none⟩),.int .u64 150] 183)) (by simp)
 have hg2:((w.alloc (.cells #[.pointer (some ⟨ta,0,none⟩)] 160)).alloc (.cells #[.pointer (some ⟨7,160,none⟩),.pointer (some ⟨w.heap.size,0,none⟩),.int .u64 150] 183)).cell? ⟨0,0,none⟩=some (.iface 209 (.agg #[.pointer (some ⟨7,134,none⟩)])):=by
  rw [World.cell?_alloc_lt _ _ ⟨0,0,none⟩ (by simp),World.cell?_alloc_lt _ _ ⟨0,0,none⟩ hlt];exact hg
 have el:=As.elemV160 ⟨w.heap.size,0,none⟩ ⟨ta,0,none⟩ (((w.alloc (.cells #[.pointer (some ⟨ta,0,none⟩)] 160)).alloc (.cells #[.pointer (some ⟨7,160,none⟩),.pointer (some ⟨w.heap.size,0,none⟩),.int .u64 150] 183)).alloc (.cells #[.pointer (some ⟨7,160,none⟩),.pointer (some ⟨w.heap.size,0,none⟩),.int .u64 150] 183)) (by rw [World.cell?_alloc_lt _ _ ⟨w.heap.size,0,none⟩ (by simp;omega)];simp)
 have st:=As.set159 ta (w.heap.size+1+1+1) n #[] old 0 ((((w.alloc (.cells #[.pointer (some ⟨ta,0,none⟩)] 160)).alloc (.cells #[.pointer (some ⟨7,160,none⟩),.pointer (some ⟨w.heap.size,0,none⟩),.int .u64 150] 183)).alloc (.cells #[.pointer (some ⟨7,160,none⟩),.pointer (some ⟨w.heap.size,0,none⟩),.int .u64 150] 183)).alloc (.cells #[.int .i64 n] 159))
  (alloc_at _ _ _ (by simp))
  ((Below.heap_alloc _ _ _ (by simp;omega)).trans ((Below.heap_alloc _ _ _ (by simp;omega)).trans ((Below.heap_alloc _ _ _ (by simp;omega)).trans ((Below.heap_alloc _ _ _ htl).trans ht))))
 go_enter Tryz.func91,Tryz.ntmps91
 go_wp2
 refine wp_loop_rounds 1 ?_
 rw [rounds_succ]
 go_wp2
 go_ret
 exact ⟨rfl,_,((((Below.refl _ w).alloc (Nat.le_refl _) _).alloc (by simp) _).alloc (by simp;omega) _).alloc (by simp;omega) _,rfl⟩
theorem As.valueOf254 (t:Addr) (w:World):(ReflectliteValue.unpack (.iface 254 (.pointer (some t)))).run Tryz.prog w
  = .ok (.agg #[.pointer (some ⟨7,254,none⟩),.pointer (some ⟨w.heap.size,0,none⟩),.int .u64 150]) (w.alloc (.cells #[.pointer (some t)] 254)):=by kernel_rfl
theorem As.type254 (a : Addr) (w : World) : (ReflectliteValue.methodAny (ReflectliteValue.valueError "reflectlite.Value.Type" 0) (fun t _ _ _ => ReflectliteType.toType t) #[.agg #[.pointer (some ⟨7, 254, none⟩), .pointer (some a), .int .u64 150]]).run Tryz.prog w
  = .ok (.iface 209 (.agg #[.pointer (some ⟨7,254,none⟩)])) w:=by kernel_rfl
theorem As.kind254 (w:World):((ReflectliteType.abiMethod fun t=>(fun a:Nat=>Value.int IntKind.u8 (a:Int)) <$> Rtype.kind t) #[.pointer (some ⟨7,254,none⟩)]).run Tryz.prog w=.ok (.int .u8 22) w:=by kernel_rfl
theorem As.kind253 (w:World):((ReflectliteType.abiMethod fun t=>(fun a:Nat=>Value.int IntKind.u8 (a:Int)) <$> Rtype.kind t) #[.pointer (some ⟨7,253,none⟩)]).run Tryz.prog w=.ok (.int .u8 25) w:=by kernel_rfl
theorem As.parts254 (a:Addr) (w:World):(ReflectliteValue.parts (.agg #[.pointer (some ⟨7,254,none⟩),.pointer (some a),.int .u64 150])).run Tryz.prog w=.ok (some (254,a,150)) w:=by kernel_rfl
theorem As.isNil254 (a p:Addr) (W:World) (ha:W.cell? a=some (.pointer (some p))) :
  (ReflectliteValue.method (ReflectliteValue.valueError "reflectlite.Value.IsNil" 0) ReflectliteValue.isNil #[.agg #[.pointer (some ⟨7, 254, none⟩), .pointer (some a), .int .u64 150]]).run Tryz.prog W = .ok (.bool false) W := by
 rw [As.rlm]
 simp only [Sem.run_bind,As.parts254,Result.andThen]
 simp [ReflectliteValue.isNil,loadVar,isAgg,underlying,Tryz.underlying254,ha,Result.andThen]
theorem As.elem254 (w:World):(ReflectliteType.method ReflectliteType.elem #[.agg #[.pointer (some ⟨7,254,none⟩)]]).run Tryz.prog w=.ok (.iface 209 (.agg #[.pointer (some ⟨7,253,none⟩)])) w:=by kernel_rfl
theorem As.implements253 (w : World) : (ReflectliteType.relation "Implements" ReflectliteType.implements_ #[.agg #[.pointer (some ⟨7, 253, none⟩)], .iface 209 (.agg #[.pointer (some ⟨7, 134, none⟩)])]).run Tryz.prog w = .ok (.bool true) w := by kernel_rfl
theorem As.typeOf253 (v:Value) (w:World):(ReflectliteType.typeOf #[.iface 253 v]).run Tryz.prog w=.ok (.iface 209 (.agg #[.pointer (some ⟨7,253,none⟩)])) w:=by kernel_rfl
theorem As.assignable253 (w : World) : (ReflectliteType.relation "AssignableTo" ReflectliteType.assignableTo #[.agg #[.pointer (some ⟨7, 253, none⟩)], .iface 209 (.agg #[.pointer (some ⟨7, 253, none⟩)])]).run Tryz.prog w = .ok (.bool true) w := by kernel_rfl
theorem As.valueOf253 (n:Int) (w:World):(ReflectliteValue.unpack (.iface 253 (.agg #[.int .i64 n]))).run Tryz.prog w
  = .ok (.agg #[.pointer (some ⟨7,253,none⟩),.pointer (some ⟨w.heap.size,0,none⟩),.int .u64 153]) (w.alloc (.cells #[.int .i64 n] 253)):=by kernel_rfl
theorem As.elemOf254 (w:World):(Rtype.elem? 254).run Tryz.prog w=.ok (some 253) w:=by kernel_rfl
theorem As.mk253 (p:Addr) (w:World):(ReflectliteValue.mk 253 p ReflectliteValue.flagAddr).run Tryz.prog w=.ok (.agg #[.pointer (some ⟨7,253,none⟩),.pointer (some p),.int .u64 409]) w:=by kernel_rfl
theorem As.elemV254 (a p:Addr) (W:World) (ha:W.cell? a=some (.pointer (some p))) :
  (ReflectliteValue.method (ReflectliteValue.valueError "reflectlite.Value.Elem" 0) ReflectliteValue.elem #[.agg #[.pointer (some ⟨7, 254, none⟩), .pointer (some a), .int .u64 150]]).run Tryz.prog W
   = .ok (.agg #[.pointer (some ⟨7,253,none⟩),.pointer (some p),.int .u64 409]) W:=by
 rw [As.rlm]
 simp only [Sem.run_bind,As.parts254,Result.andThen]
 simp [ReflectliteValue.elem,loadVar,isAgg,underlying,Tryz.underlying254,ha,Result.andThen,As.elemOf254,As.mk253]
theorem As.parts253a (a:Addr) (w:World):(ReflectliteValue.parts (.agg #[.pointer (some ⟨7,253,none⟩),.pointer (some a),.int .u64 409])).run Tryz.prog w=.ok (some (253,a,409)) w:=by kernel_rfl
theorem As.parts253 (a:Addr) (w:World):(ReflectliteValue.parts (.agg #[.pointer (some ⟨7,253,none⟩),.pointer (some a),.int .u64 153])).run Tryz.prog w=.ok (some (253,a,153)) w:=by kernel_rfl
theorem As.direct253 (w:World):(Rtype.directlyAssignable 253 253).run Tryz.prog w=.ok true w:=by kernel_rfl
theorem As.info253:(Tryz.prog.info? 253).map (·.size)=some 1:=by kernel_rfl
theorem As.set253 (ta:Nat) (b:Nat) (n:Int) (cs0:Array Value) (old:Value) (t0:TypeId) (W:World) (hb:W.heap[b]?=some (.cells #[.int .i64 n] 253 (0,0))) (ht:W.heap[ta]?=some (.cells #[old] 253 (0,0))) :
  (ReflectliteValue.set #[.agg #[.pointer (some ⟨7,253,none⟩),.pointer (some ⟨ta,0,none⟩),.int .u64 409],.agg #[.pointer (some ⟨7,253,none⟩),.pointer (some ⟨b,0,none⟩),.int .u64 153]]).run Tryz.prog W
   = .ok (.tuple #[]) (W.setCell ⟨ta,0,none⟩ (.int .i64 n)):=by
 rw [As.rls]
 have hl:=run_loadVar_row (P:=Tryz.prog) W b 253 253 #[.int .i64 n] (0,0) _ hb Tryz.underlying253 rfl As.info253
 have c:=blk_cell ht 0
 have f:=blk_frozen ht 0
 simp only [Sem.run_bind,As.parts253a,As.parts253,Result.andThen]
 simp [ReflectliteValue.flagAddr,hl,Result.andThen,As.direct253,storeVar,Value.cells,storeCells,Addr.add]
 rw [run_store Tryz.prog W _ _ _ (by rfl)]
 have c':W.cell? ⟨ta,0,none⟩=some old:=c
 simp [c',f]
set_option maxRecDepth 100000 in
set_option maxHeartbeats 4000000 in
theorem as_hit253 (n:Int) (ta:Nat) (old:Value) (w:World) (hg:w.cell? ⟨0,0,none⟩=some (.iface 209 (.agg #[.pointer (some ⟨7,134,none⟩)]))) (ht:w.heap[ta]?=some (.cells #[old] 253 (0,0))) :
  Calls Tryz.prog 91 #[.iface 253 (.agg #[.int .i64 n]),.iface 254 (.pointer (some ⟨ta,0,none⟩))] w fun e w'=>e=.returned (.bool true)∧∃ W,Below w.heap.size w W∧w'=W.setCell ⟨ta,0,none⟩ (.int .i64 n):=by
 have h129:=@run_callFunc_extern Tryz.prog 129 _ (fun args=>ReflectliteValue.unpack (args.getD 0 (.tuple #[]))) Tryz.func129 (by kernel_rfl) (by kernel_rfl) (by kernel_rfl) (by kernel_rfl)
 have h130 := @run_callFunc_extern Tryz.prog 130 _ (ReflectliteValue.methodAny (ReflectliteValue.valueError "reflectlite.Value.Type" 0) (fun t _ _ _ => ReflectliteType.toType t)) Tryz.func130 (by kernel_rfl) (by kernel_rfl) (by kernel_rfl) (by kernel_rfl)
 have h131 := @run_callFunc_extern Tryz.prog 131 _ (ReflectliteValue.method (ReflectliteValue.valueError "reflectlite.Value.IsNil" 0) ReflectliteValue.isNil) Tryz.func131 (by kernel_rfl) (by kernel_rfl) (by kernel_rfl) (by kernel_rfl)
 have h304:=@run_callFunc_extern Tryz.prog 304 _ (ReflectliteType.abiMethod fun t=>do pure (.int .u8 (← Rtype.kind t))) Tryz.func304 (by kernel_rfl) (by kernel_rfl) (by kernel_rfl) (by kernel_rfl)
 have h320:=@run_callFunc_extern Tryz.prog 320 _ (ReflectliteType.method ReflectliteType.elem) Tryz.func320 (by kernel_rfl) (by kernel_rfl) (by kernel_rfl) (by kernel_rfl)
 have h321 := @run_callFunc_extern Tryz.prog 321 _ (ReflectliteType.relation "Implements" ReflectliteType.implements_) Tryz.func321 (by kernel_rfl) (by kernel_rfl) (by kernel_rfl) (by kernel_rfl)
 have h153:=@run_callFunc_extern Tryz.prog 153 _ ReflectliteType.typeOf Tryz.func153 (by kernel_rfl) (by kernel_rfl) (by kernel_rfl) (by kernel_rfl)
 have h318 := @run_callFunc_extern Tryz.prog 318 _ (ReflectliteType.relation "AssignableTo" ReflectliteType.assignableTo) Tryz.func318 (by kernel_rfl) (by kernel_rfl) (by kernel_rfl) (by kernel_rfl)
 have h154 := @run_callFunc_extern Tryz.prog 154 _ (ReflectliteValue.method (ReflectliteValue.valueError "reflectlite.Value.Elem" 0) ReflectliteValue.elem) Tryz.func154 (by kernel_rfl) (by kernel_rfl) (by kernel_rfl) (by kernel_rfl)
 have h155:=@run_callFunc_extern Tryz.prog 155 _ ReflectliteValue.set Tryz.func155 (by kernel_rfl) (by kernel_rfl) (by kernel_rfl) (by kernel_rfl)
 have tO:=As.typeOf253
 have mA:=As.methodAssignableTo
 have a25:=As.assignable253
 have v25:=As.valueOf253
 have f6:=As.valueOf254
 have f7:=As.type254
 have mK:=As.methodKind
 have mE:=As.methodElem
 have mI:=As.methodImplements
 have k27:=As.kind254
 have k25:=As.kind253
 have e27:=As.elem254
 have i25:=As.implements253
 have htl:=blk_lt ht
 have hlt:0 < w.heap.size:=by omega
 obtain ⟨V,hV⟩:∃ V:Obj,V=.cells #[.pointer (some ⟨7,254,none⟩),.pointer (some ⟨w.heap.size,0,none⟩),.int .u64 150] 183:=⟨_,rfl⟩
 have n8:=As.isNil254 ⟨w.heap.size,0,none⟩ ⟨ta,0,none⟩ ((w.alloc (.cells #[.pointer (some ⟨ta,0,none⟩)] 254)).alloc (.cells #[.pointer (some ⟨7,254,none⟩),.pointer (some ⟨w.heap.size,0,none⟩),.int .u64 150] 183)) (by simp)
 have hg2:((w.alloc (.cells #[.pointer (some ⟨ta,0,none⟩)] 254)).alloc (.cells #[.pointer (some ⟨7,254,none⟩),.pointer (some ⟨w.heap.size,0,none⟩),.int .u64 150] 183)).cell? ⟨0,0,none⟩=some (.iface 209 (.agg #[.pointer (some ⟨7,134,none⟩)])):=by
  rw [World.cell?_alloc_lt _ _ ⟨0,0,none⟩ (by simp),World.cell?_alloc_lt _ _ ⟨0,0,none⟩ hlt];exact hg
 have el:=As.elemV254 ⟨w.heap.size,0,none⟩ ⟨ta,0,none⟩ (((w.alloc (.cells #[.pointer (some ⟨ta,0,none⟩)] 254)).alloc (.cells #[.pointer (some ⟨7,254,none⟩),.pointer (some ⟨w.heap.size,0,none⟩),.int .u64 150] 183)).alloc (.cells #[.pointer (some ⟨7,254,none⟩),.pointer (some ⟨w.heap.size,0,none⟩),.int .u64 150] 183)) (by rw [World.cell?_alloc_lt _ _ ⟨w.heap.size,0,none⟩ (by simp;omega)];simp)
 have st:=As.set253 ta (w.heap.size+1+1+1) n #[] old 0 ((((w.alloc (.cells #[.pointer (some ⟨ta,0,none⟩)] 254)).alloc (.cells #[.pointer (some ⟨7,254,none⟩),.pointer (some ⟨w.heap.size,0,none⟩),.int .u64 150] 183)).alloc (.cells #[.pointer (some ⟨7,254,none⟩),.pointer (some ⟨w.heap.size,0,none⟩),.int .u64 150] 183)).alloc (.cells #[.int .i64 n] 253))
  (alloc_at _ _ _ (by simp))
  ((Below.heap_alloc _ _ _ (by simp;omega)).trans ((Below.heap_alloc _ _ _ (by simp;omega)).trans ((Below.heap_alloc _ _ _ (by simp;omega)).trans ((Below.heap_alloc _ _ _ htl).trans ht))))
 go_enter Tryz.func91,Tryz.ntmps91
 go_wp2
 refine wp_loop_rounds 1 ?_
 rw [rounds_succ]
 go_wp2
 go_ret
 exact ⟨rfl,_,((((Below.refl _ w).alloc (Nat.le_refl _) _).alloc (by simp) _).alloc (by simp;omega) _).alloc (by simp;omega) _,rfl⟩
theorem As.valueOf301 (t:Addr) (w:World):(ReflectliteValue.unpack (.iface 301 (.pointer (some t)))).run Tryz.prog w
  = .ok (.agg #[.pointer (some ⟨7,301,none⟩),.pointer (some ⟨w.heap.size,0,none⟩),.int .u64 150]) (w.alloc (.cells #[.pointer (some t)] 301)):=by kernel_rfl
theorem As.type301 (a : Addr) (w : World) : (ReflectliteValue.methodAny (ReflectliteValue.valueError "reflectlite.Value.Type" 0) (fun t _ _ _ => ReflectliteType.toType t) #[.agg #[.pointer (some ⟨7, 301, none⟩), .pointer (some a), .int .u64 150]]).run Tryz.prog w
  = .ok (.iface 209 (.agg #[.pointer (some ⟨7,301,none⟩)])) w:=by kernel_rfl
theorem As.kind301 (w:World):((ReflectliteType.abiMethod fun t=>(fun a:Nat=>Value.int IntKind.u8 (a:Int)) <$> Rtype.kind t) #[.pointer (some ⟨7,301,none⟩)]).run Tryz.prog w=.ok (.int .u8 22) w:=by kernel_rfl
theorem As.kind300 (w:World):((ReflectliteType.abiMethod fun t=>(fun a:Nat=>Value.int IntKind.u8 (a:Int)) <$> Rtype.kind t) #[.pointer (some ⟨7,300,none⟩)]).run Tryz.prog w=.ok (.int .u8 25) w:=by kernel_rfl
theorem As.parts301 (a:Addr) (w:World):(ReflectliteValue.parts (.agg #[.pointer (some ⟨7,301,none⟩),.pointer (some a),.int .u64 150])).run Tryz.prog w=.ok (some (301,a,150)) w:=by kernel_rfl
theorem As.isNil301 (a p:Addr) (W:World) (ha:W.cell? a=some (.pointer (some p))) :
  (ReflectliteValue.method (ReflectliteValue.valueError "reflectlite.Value.IsNil" 0) ReflectliteValue.isNil #[.agg #[.pointer (some ⟨7, 301, none⟩), .pointer (some a), .int .u64 150]]).run Tryz.prog W = .ok (.bool false) W := by
 rw [As.rlm]
 simp only [Sem.run_bind,As.parts301,Result.andThen]
 simp [ReflectliteValue.isNil,loadVar,isAgg,underlying,Tryz.underlying301,ha,Result.andThen]
theorem As.elem301 (w:World):(ReflectliteType.method ReflectliteType.elem #[.agg #[.pointer (some ⟨7,301,none⟩)]]).run Tryz.prog w=.ok (.iface 209 (.agg #[.pointer (some ⟨7,300,none⟩)])) w:=by kernel_rfl
theorem As.implements300 (w : World) : (ReflectliteType.relation "Implements" ReflectliteType.implements_ #[.agg #[.pointer (some ⟨7, 300, none⟩)], .iface 209 (.agg #[.pointer (some ⟨7, 134, none⟩)])]).run Tryz.prog w = .ok (.bool true) w := by kernel_rfl
theorem As.typeOf300 (v:Value) (w:World):(ReflectliteType.typeOf #[.iface 300 v]).run Tryz.prog w=.ok (.iface 209 (.agg #[.pointer (some ⟨7,300,none⟩)])) w:=by kernel_rfl
theorem As.assignable300 (w : World) : (ReflectliteType.relation "AssignableTo" ReflectliteType.assignableTo #[.agg #[.pointer (some ⟨7, 300, none⟩)], .iface 209 (.agg #[.pointer (some ⟨7, 300, none⟩)])]).run Tryz.prog w = .ok (.bool true) w := by kernel_rfl
theorem As.valueOf300 (n:Int) (w:World):(ReflectliteValue.unpack (.iface 300 (.agg #[.int .i64 n]))).run Tryz.prog w
  = .ok (.agg #[.pointer (some ⟨7,300,none⟩),.pointer (some ⟨w.heap.size,0,none⟩),.int .u64 153]) (w.alloc (.cells #[.int .i64 n] 300)):=by kernel_rfl
theorem As.elemOf301 (w:World):(Rtype.elem? 301).run Tryz.prog w=.ok (some 300) w:=by kernel_rfl
theorem As.mk300 (p:Addr) (w:World):(ReflectliteValue.mk 300 p ReflectliteValue.flagAddr).run Tryz.prog w=.ok (.agg #[.pointer (some ⟨7,300,none⟩),.pointer (some p),.int .u64 409]) w:=by kernel_rfl
theorem As.elemV301 (a p:Addr) (W:World) (ha:W.cell? a=some (.pointer (some p))) :
  (ReflectliteValue.method (ReflectliteValue.valueError "reflectlite.Value.Elem" 0) ReflectliteValue.elem #[.agg #[.pointer (some ⟨7, 301, none⟩), .pointer (some a), .int .u64 150]]).run Tryz.prog W
   = .ok (.agg #[.pointer (some ⟨7,300,none⟩),.pointer (some p),.int .u64 409]) W:=by
 rw [As.rlm]
 simp only [Sem.run_bind,As.parts301,Result.andThen]
 simp [ReflectliteValue.elem,loadVar,isAgg,underlying,Tryz.underlying301,ha,Result.andThen,As.elemOf301,As.mk300]
theorem As.parts300a (a:Addr) (w:World):(ReflectliteValue.parts (.agg #[.pointer (some ⟨7,300,none⟩),.pointer (some a),.int .u64 409])).run Tryz.prog w=.ok (some (300,a,409)) w:=by kernel_rfl
theorem As.parts300 (a:Addr) (w:World):(ReflectliteValue.parts (.agg #[.pointer (some ⟨7,300,none⟩),.pointer (some a),.int .u64 153])).run Tryz.prog w=.ok (some (300,a,153)) w:=by kernel_rfl
theorem As.direct300 (w:World):(Rtype.directlyAssignable 300 300).run Tryz.prog w=.ok true w:=by kernel_rfl
theorem As.info300:(Tryz.prog.info? 300).map (·.size)=some 1:=by kernel_rfl
theorem As.set300 (ta:Nat) (b:Nat) (n:Int) (cs0:Array Value) (old:Value) (t0:TypeId) (W:World) (hb:W.heap[b]?=some (.cells #[.int .i64 n] 300 (0,0))) (ht:W.heap[ta]?=some (.cells #[old] 300 (0,0))) :
  (ReflectliteValue.set #[.agg #[.pointer (some ⟨7,300,none⟩),.pointer (some ⟨ta,0,none⟩),.int .u64 409],.agg #[.pointer (some ⟨7,300,none⟩),.pointer (some ⟨b,0,none⟩),.int .u64 153]]).run Tryz.prog W
   = .ok (.tuple #[]) (W.setCell ⟨ta,0,none⟩ (.int .i64 n)):=by
 rw [As.rls]
 have hl:=run_loadVar_row (P:=Tryz.prog) W b 300 300 #[.int .i64 n] (0,0) _ hb Tryz.underlying300 rfl As.info300
 have c:=blk_cell ht 0
 have f:=blk_frozen ht 0
 simp only [Sem.run_bind,As.parts300a,As.parts300,Result.andThen]
 simp [ReflectliteValue.flagAddr,hl,Result.andThen,As.direct300,storeVar,Value.cells,storeCells,Addr.add]
 rw [run_store Tryz.prog W _ _ _ (by rfl)]
 have c':W.cell? ⟨ta,0,none⟩=some old:=c
 simp [c',f]
set_option maxRecDepth 100000 in
set_option maxHeartbeats 4000000 in
theorem as_hit300 (n:Int) (ta:Nat) (old:Value) (w:World) (hg:w.cell? ⟨0,0,none⟩=some (.iface 209 (.agg #[.pointer (some ⟨7,134,none⟩)]))) (ht:w.heap[ta]?=some (.cells #[old] 300 (0,0))) :
  Calls Tryz.prog 91 #[.iface 300 (.agg #[.int .i64 n]),.iface 301 (.pointer (some ⟨ta,0,none⟩))] w fun e w'=>e=.returned (.bool true)∧∃ W,Below w.heap.size w W∧w'=W.setCell ⟨ta,0,none⟩ (.int .i64 n):=by
 have h129:=@run_callFunc_extern Tryz.prog 129 _ (fun args=>ReflectliteValue.unpack (args.getD 0 (.tuple #[]))) Tryz.func129 (by kernel_rfl) (by kernel_rfl) (by kernel_rfl) (by kernel_rfl)
 have h130 := @run_callFunc_extern Tryz.prog 130 _ (ReflectliteValue.methodAny (ReflectliteValue.valueError "reflectlite.Value.Type" 0) (fun t _ _ _ => ReflectliteType.toType t)) Tryz.func130 (by kernel_rfl) (by kernel_rfl) (by kernel_rfl) (by kernel_rfl)
 have h131 := @run_callFunc_extern Tryz.prog 131 _ (ReflectliteValue.method (ReflectliteValue.valueError "reflectlite.Value.IsNil" 0) ReflectliteValue.isNil) Tryz.func131 (by kernel_rfl) (by kernel_rfl) (by kernel_rfl) (by kernel_rfl)
 have h304:=@run_callFunc_extern Tryz.prog 304 _ (ReflectliteType.abiMethod fun t=>do pure (.int .u8 (← Rtype.kind t))) Tryz.func304 (by kernel_rfl) (by kernel_rfl) (by kernel_rfl) (by kernel_rfl)
 have h320:=@run_callFunc_extern Tryz.prog 320 _ (ReflectliteType.method ReflectliteType.elem) Tryz.func320 (by kernel_rfl) (by kernel_rfl) (by kernel_rfl) (by kernel_rfl)
 have h321 := @run_callFunc_extern Tryz.prog 321 _ (ReflectliteType.relation "Implements" ReflectliteType.implements_) Tryz.func321 (by kernel_rfl) (by kernel_rfl) (by kernel_rfl) (by kernel_rfl)
 have h153:=@run_callFunc_extern Tryz.prog 153 _ ReflectliteType.typeOf Tryz.func153 (by kernel_rfl) (by kernel_rfl) (by kernel_rfl) (by kernel_rfl)
 have h318 := @run_callFunc_extern Tryz.prog 318 _ (ReflectliteType.relation "AssignableTo" ReflectliteType.assignableTo) Tryz.func318 (by kernel_rfl) (by kernel_rfl) (by kernel_rfl) (by kernel_rfl)
 have h154 := @run_callFunc_extern Tryz.prog 154 _ (ReflectliteValue.method (ReflectliteValue.valueError "reflectlite.Value.Elem" 0) ReflectliteValue.elem) Tryz.func154 (by kernel_rfl) (by kernel_rfl) (by kernel_rfl) (by kernel_rfl)
 have h155:=@run_callFunc_extern Tryz.prog 155 _ ReflectliteValue.set Tryz.func155 (by kernel_rfl) (by kernel_rfl) (by kernel_rfl) (by kernel_rfl)
 have tO:=As.typeOf300
 have mA:=As.methodAssignableTo
 have a25:=As.assignable300
 have v25:=As.valueOf300
 have f6:=As.valueOf301
 have f7:=As.type301
 have mK:=As.methodKind
 have mE:=As.methodElem
 have mI:=As.methodImplements
 have k27:=As.kind301
 have k25:=As.kind300
 have e27:=As.elem301
 have i25:=As.implements300
 have htl:=blk_lt ht
 have hlt:0 < w.heap.size:=by omega
 obtain ⟨V,hV⟩:∃ V:Obj,V=.cells #[.pointer (some ⟨7,301,none⟩),.pointer (some ⟨w.heap.size,0,none⟩),.int .u64 150] 183:=⟨_,rfl⟩
 have n8:=As.isNil301 ⟨w.heap.size,0,none⟩ ⟨ta,0,none⟩ ((w.alloc (.cells #[.pointer (some ⟨ta,0,none⟩)] 301)).alloc (.cells #[.pointer (some ⟨7,301,none⟩),.pointer (some ⟨w.heap.size,0,none⟩),.int .u64 150] 183)) (by simp)
 have hg2:((w.alloc (.cells #[.pointer (some ⟨ta,0,none⟩)] 301)).alloc (.cells #[.pointer (some ⟨7,301,none⟩),.pointer (some ⟨w.heap.size,0,none⟩),.int .u64 150] 183)).cell? ⟨0,0,none⟩=some (.iface 209 (.agg #[.pointer (some ⟨7,134,none⟩)])):=by
  rw [World.cell?_alloc_lt _ _ ⟨0,0,none⟩ (by simp),World.cell?_alloc_lt _ _ ⟨0,0,none⟩ hlt];exact hg
 have el:=As.elemV301 ⟨w.heap.size,0,none⟩ ⟨ta,0,none⟩ (((w.alloc (.cells #[.pointer (some ⟨ta,0,none⟩)] 301)).alloc (.cells #[.pointer (some ⟨7,301,none⟩),.pointer (some ⟨w.heap.size,0,none⟩),.int .u64 150] 183)).alloc (.cells #[.pointer (some ⟨7,301,none⟩),.pointer (some ⟨w.heap.size,0,none⟩),.int .u64 150] 183)) (by rw [World.cell?_alloc_lt _ _ ⟨w.heap.size,0,none⟩ (by simp;omega)];simp)
 have st:=As.set300 ta (w.heap.size+1+1+1) n #[] old 0 ((((w.alloc (.cells #[.pointer (some ⟨ta,0,none⟩)] 301)).alloc (.cells #[.pointer (some ⟨7,301,none⟩),.pointer (some ⟨w.heap.size,0,none⟩),.int .u64 150] 183)).alloc (.cells #[.pointer (some ⟨7,301,none⟩),.pointer (some ⟨w.heap.size,0,none⟩),.int .u64 150] 183)).alloc (.cells #[.int .i64 n] 300))
  (alloc_at _ _ _ (by simp))
  ((Below.heap_alloc _ _ _ (by simp;omega)).trans ((Below.heap_alloc _ _ _ (by simp;omega)).trans ((Below.heap_alloc _ _ _ (by simp;omega)).trans ((Below.heap_alloc _ _ _ htl).trans ht))))
 go_enter Tryz.func91,Tryz.ntmps91
 go_wp2
 refine wp_loop_rounds 1 ?_
 rw [rounds_succ]
 go_wp2
 go_ret
 exact ⟨rfl,_,((((Below.refl _ w).alloc (Nat.le_refl _) _).alloc (by simp) _).alloc (by simp;omega) _).alloc (by simp;omega) _,rfl⟩
end Go.Proofs.YtjaobihcdkjmbaaGreatDoor
end
section
namespace Go.Proofs.YtjaobihcdkjmbaaGreatDoor
open Go.RowKit Go.Proofs.YtjaobihcdkjmbaaGreatDoorW.PrintWords Go.Proofs.YtjaobihcdkjmbaaGreatDoor.PReadTokens
set_option maxHeartbeats 1000000 in
theorem fail255_no (e:Int) (w:World):Calls Tryz.prog 255 #[.bool false,.int .i64 e] w fun en w'=>en=.returned (.tuple #[])∧w'=w:=by
 go_enter Tryz.func255,Tryz.ntmps255
 go_wp2
 exact bodyPost_end (results_none rfl _ _ _) rfl ⟨rfl,rfl⟩
set_option maxHeartbeats 1000000 in
theorem fail188_no (e:Int) (w:World):Calls Tryz.prog 188 #[.bool false,.int .i64 e] w fun en w'=>en=.returned (.tuple #[])∧w'=w:=by
 go_enter Tryz.func188,Tryz.ntmps188
 go_wp2
 exact bodyPost_end (results_none rfl _ _ _) rfl ⟨rfl,rfl⟩
set_option maxHeartbeats 1000000 in
theorem caught225_nil (w:World):Calls Tryz.prog 225 #[.nilIface] w fun e w'=>e=.returned (.int .i64 0)∧w'=w:=by
 have hta:=asNil_134
 go_enter Tryz.func225,Tryz.ntmps225
 go_wp2
 go_ret
 exact ⟨rfl,rfl⟩
set_option maxHeartbeats 1000000 in
theorem catch224_idle (p:Nat) (old:Value) (w:World) (hp:w.heap[p]?=some (.cells #[old] 36 (0,0))) :
  CallsD Tryz.prog 224 #[.pointer (some ⟨p,0,none⟩)] .returning w fun e u' w'=>e=.returned (.tuple #[])∧u'=.returning∧w'=w.setCell ⟨p,0,none⟩ (.int .i64 0):=by
 have hta:=caught225_nil w
 have f0:=blk_frozen hp 0
 have c0:=blk_cell hp 0
 refine callsD_of_wpS Tryz.func224 rfl fun c₀ cs hu=>?_
 apply wpS_region
 simp [wpOpsS,go_sem,recoverD,hu,Tryz.ntmps224,Exit.thenS]
 refine hta.mono ?_
 rintro e w' ⟨rfl,hw⟩
 subst w'
 simp [go_sem,c0,f0,Oper.upon,Result.andThen]
 cases c₀
 simp_all [bodyPostS,results,Tryz.results224]
set_option maxHeartbeats 1000000 in
theorem caught167_nil (w:World):Calls Tryz.prog 167 #[.nilIface] w fun e w'=>e=.returned (.int .i64 0)∧w'=w:=by
 have hta:=asNil_134
 go_enter Tryz.func167,Tryz.ntmps167
 go_wp2
 go_ret
 exact ⟨rfl,rfl⟩
set_option maxHeartbeats 1000000 in
theorem catch166_idle (p:Nat) (old:Value) (w:World) (hp:w.heap[p]?=some (.cells #[old] 36 (0,0))) :
  CallsD Tryz.prog 166 #[.pointer (some ⟨p,0,none⟩)] .returning w fun e u' w'=>e=.returned (.tuple #[])∧u'=.returning∧w'=w.setCell ⟨p,0,none⟩ (.int .i64 0):=by
 have hta:=caught167_nil w
 have f0:=blk_frozen hp 0
 have c0:=blk_cell hp 0
 refine callsD_of_wpS Tryz.func166 rfl fun c₀ cs hu=>?_
 apply wpS_region
 simp [wpOpsS,go_sem,recoverD,hu,Tryz.ntmps166,Exit.thenS]
 refine hta.mono ?_
 rintro e w' ⟨rfl,hw⟩
 subst w'
 simp [go_sem,c0,f0,Oper.upon,Result.andThen]
 cases c₀
 simp_all [bodyPostS,results,Tryz.results166]
structure Dig (d:UInt8):Prop where
 lo:49≤d.toNat
 hi:d.toNat≤57
theorem Dig.cases {d:UInt8} (h:Dig d):d=49∨d=50∨d=51∨d=52∨d=53∨d=54∨d=55∨d=56∨d=57:=by
 have h1:=h.lo
 have h2:=h.hi
 have h3:d.toNat=49∨d.toNat=50∨d.toNat=51∨d.toNat=52∨d.toNat=53∨d.toNat=54∨d.toNat=55∨d.toNat=56∨d.toNat=57:=by omega
 have inj:∀ e:UInt8,d.toNat=e.toNat→d=e:=fun e h=>UInt8.toNat_inj.1 h
 rcases h3 with h | h | h | h | h | h | h | h | h
 ·exact .inl (inj 49 h)
 ·exact .inr (.inl (inj 50 h))
 ·exact .inr (.inr (.inl (inj 51 h)))
 ·exact .inr (.inr (.inr (.inl (inj 52 h))))
 ·exact .inr (.inr (.inr (.inr (.inl (inj 53 h)))))
 ·exact .inr (.inr (.inr (.inr (.inr (.inl (inj 54 h))))))
 ·exact .inr (.inr (.inr (.inr (.inr (.inr (.inl (inj 55 h)))))))
 ·exact .inr (.inr (.inr (.inr (.inr (.inr (.inr (.inl (inj 56 h))))))))
 ·exact .inr (.inr (.inr (.inr (.inr (.inr (.inr (.inr (inj 57 h))))))))
end Go.Proofs.YtjaobihcdkjmbaaGreatDoor
end
section
namespace Go.Proofs.YtjaobihcdkjmbaaGreatDoor
open Go.RowKit Go.Proofs.YtjaobihcdkjmbaaGreatDoorW.PrintWords Go.Proofs.YtjaobihcdkjmbaaGreatDoor.PReadTokens
def wrongAt (T:TypeId) (e:Int):Ending:=.panicked [{ v:=.iface T (.agg #[.int .i64 e]),recovered:=false }]
theorem as159_134 (v:Value) (w:World):(Instr.typeAssert (.iface 159 v) 20 134 true).run Tryz.prog w=.ok (.tuple #[.iface 159 v,.bool true]) w:=run_typeAssert_hasB Tryz.underlying134 (by kernel_rfl) v 20 w
set_option maxHeartbeats 1000000 in
theorem caught63_hit (n:Int) (w:World) (hg:w.cell? ⟨0,0,none⟩=some (.iface 209 (.agg #[.pointer (some ⟨7,134,none⟩)]))) :
  Calls Tryz.prog 63 #[.iface 159 (.agg #[.int .i64 n])] w fun e w'=>e=.returned (.int .i64 n)∧Below w.heap.size w w':=by
 have hta:=as159_134
 have hpl:=World.block_lt_of_cell? w _ hg
 have hh:=as_hit159 n w.heap.size (.int .i64 0) (w.alloc (.cells #[.int .i64 0] 159)) ((World.cell?_alloc_lt _ _ ⟨0,0,none⟩ hpl).trans hg) (blk_new _ _)
 go_enter Tryz.func63,Tryz.ntmps63
 go_wp2_with fail
 refine hh.mono ?_
 rintro e w2 ⟨rfl,W,hb,rfl⟩
 have hs2:=bcell hb (blk_new w (.cells #[.int .i64 0] 159))
 have hs3:=blk_set hs2 0 (.int .i64 n)
 have c1:=blk_cell hs3 0
 have hfin:=(((Below.refl _ w).alloc (Nat.le_refl _) (.cells #[.int .i64 0] 159)).trans (hb.mono (by simp))).setCell (p:=⟨w.heap.size,0,none⟩) (Nat.le_refl _) (.int .i64 n)
 go_wp2
 go_ret
 exact ⟨rfl,hfin⟩
set_option maxHeartbeats 1000000 in
theorem catch62_hit (p:Nat) (n:Int) (old:Value) (older:List PanicEntry) (w:World) (hp:w.heap[p]?=some (.cells #[old] 36 (0,0))) (hg:w.cell? ⟨0,0,none⟩=some (.iface 209 (.agg #[.pointer (some ⟨7,134,none⟩)]))) :
  CallsD Tryz.prog 62 #[.pointer (some ⟨p,0,none⟩)] (.panicking ({ v:=.iface 159 (.agg #[.int .i64 n]),recovered:=false } :: older)) w fun e u' w' =>
   e=.returned (.tuple #[])∧u'=.panicking ({ v:=.iface 159 (.agg #[.int .i64 n]),recovered:=true } :: older)∧w'.heap[p]?=some (.cells #[.int .i64 n] 36 (0,0))∧w.grownBy w' (some p):=by
 have hta:=caught63_hit n w hg
 refine callsD_of_wpS Tryz.func62 rfl fun c₀ cs hu=>?_
 apply wpS_region
 simp [wpOpsS,go_sem,recoverD,hu,Tryz.ntmps62,Exit.thenS]
 refine hta.mono ?_
 rintro e w' ⟨rfl,hb⟩
 have hp2:=bcell hb hp
 have c0:=blk_cell hp2 0
 have f0:=blk_frozen hp2 0
 have hfin:=blk_set hp2 0 (.int .i64 n)
 have hgr:w.grownBy (w'.setCell ⟨p,0,none⟩ (.int .i64 n)) (some p):=Lib.grownBy_trans (Lib.grownBy_below (World.grownBy.refl _ _) hb) (Lib.grownBy_setCell _ _ _ _)
 simp [go_sem,c0,f0,Oper.upon,Result.andThen]
 cases c₀
 simp_all [bodyPostS,results,Tryz.results62]
theorem as253_134 (v:Value) (w:World):(Instr.typeAssert (.iface 253 v) 20 134 true).run Tryz.prog w=.ok (.tuple #[.iface 253 v,.bool true]) w:=run_typeAssert_hasB Tryz.underlying134 (by kernel_rfl) v 20 w
set_option maxHeartbeats 1000000 in
theorem caught167_hit (n:Int) (w:World) (hg:w.cell? ⟨0,0,none⟩=some (.iface 209 (.agg #[.pointer (some ⟨7,134,none⟩)]))) :
  Calls Tryz.prog 167 #[.iface 253 (.agg #[.int .i64 n])] w fun e w'=>e=.returned (.int .i64 n)∧Below w.heap.size w w':=by
 have hta:=as253_134
 have hpl:=World.block_lt_of_cell? w _ hg
 have hh:=as_hit253 n w.heap.size (.int .i64 0) (w.alloc (.cells #[.int .i64 0] 253)) ((World.cell?_alloc_lt _ _ ⟨0,0,none⟩ hpl).trans hg) (blk_new _ _)
 go_enter Tryz.func167,Tryz.ntmps167
 go_wp2_with fail
 refine hh.mono ?_
 rintro e w2 ⟨rfl,W,hb,rfl⟩
 have hs2:=bcell hb (blk_new w (.cells #[.int .i64 0] 253))
 have hs3:=blk_set hs2 0 (.int .i64 n)
 have c1:=blk_cell hs3 0
 have hfin:=(((Below.refl _ w).alloc (Nat.le_refl _) (.cells #[.int .i64 0] 253)).trans (hb.mono (by simp))).setCell (p:=⟨w.heap.size,0,none⟩) (Nat.le_refl _) (.int .i64 n)
 go_wp2
 go_ret
 exact ⟨rfl,hfin⟩
set_option maxHeartbeats 1000000 in
theorem catch166_hit (p:Nat) (n:Int) (old:Value) (older:List PanicEntry) (w:World) (hp:w.heap[p]?=some (.cells #[old] 36 (0,0))) (hg:w.cell? ⟨0,0,none⟩=some (.iface 209 (.agg #[.pointer (some ⟨7,134,none⟩)]))) :
  CallsD Tryz.prog 166 #[.pointer (some ⟨p,0,none⟩)] (.panicking ({ v:=.iface 253 (.agg #[.int .i64 n]),recovered:=false } :: older)) w fun e u' w' =>
   e=.returned (.tuple #[])∧u'=.panicking ({ v:=.iface 253 (.agg #[.int .i64 n]),recovered:=true } :: older)∧w'.heap[p]?=some (.cells #[.int .i64 n] 36 (0,0))∧w.grownBy w' (some p):=by
 have hta:=caught167_hit n w hg
 refine callsD_of_wpS Tryz.func166 rfl fun c₀ cs hu=>?_
 apply wpS_region
 simp [wpOpsS,go_sem,recoverD,hu,Tryz.ntmps166,Exit.thenS]
 refine hta.mono ?_
 rintro e w' ⟨rfl,hb⟩
 have hp2:=bcell hb hp
 have c0:=blk_cell hp2 0
 have f0:=blk_frozen hp2 0
 have hfin:=blk_set hp2 0 (.int .i64 n)
 have hgr:w.grownBy (w'.setCell ⟨p,0,none⟩ (.int .i64 n)) (some p):=Lib.grownBy_trans (Lib.grownBy_below (World.grownBy.refl _ _) hb) (Lib.grownBy_setCell _ _ _ _)
 simp [go_sem,c0,f0,Oper.upon,Result.andThen]
 cases c₀
 simp_all [bodyPostS,results,Tryz.results166]
set_option maxHeartbeats 1000000 in
theorem fail188_yes (e:Int) (w:World):Calls Tryz.prog 188 #[.bool true,.int .i64 e] w fun en w'=>en=wrongAt 253 e∧w'=w:=by
 unfold wrongAt
 go_enter Tryz.func188,Tryz.ntmps188
 go_wp2
 exact ⟨rfl,rfl,rfl⟩
theorem as300_134 (v:Value) (w:World):(Instr.typeAssert (.iface 300 v) 20 134 true).run Tryz.prog w=.ok (.tuple #[.iface 300 v,.bool true]) w:=run_typeAssert_hasB Tryz.underlying134 (by kernel_rfl) v 20 w
set_option maxHeartbeats 1000000 in
theorem caught225_hit (n:Int) (w:World) (hg:w.cell? ⟨0,0,none⟩=some (.iface 209 (.agg #[.pointer (some ⟨7,134,none⟩)]))) :
  Calls Tryz.prog 225 #[.iface 300 (.agg #[.int .i64 n])] w fun e w'=>e=.returned (.int .i64 n)∧Below w.heap.size w w':=by
 have hta:=as300_134
 have hpl:=World.block_lt_of_cell? w _ hg
 have hh:=as_hit300 n w.heap.size (.int .i64 0) (w.alloc (.cells #[.int .i64 0] 300)) ((World.cell?_alloc_lt _ _ ⟨0,0,none⟩ hpl).trans hg) (blk_new _ _)
 go_enter Tryz.func225,Tryz.ntmps225
 go_wp2_with fail
 refine hh.mono ?_
 rintro e w2 ⟨rfl,W,hb,rfl⟩
 have hs2:=bcell hb (blk_new w (.cells #[.int .i64 0] 300))
 have hs3:=blk_set hs2 0 (.int .i64 n)
 have c1:=blk_cell hs3 0
 have hfin:=(((Below.refl _ w).alloc (Nat.le_refl _) (.cells #[.int .i64 0] 300)).trans (hb.mono (by simp))).setCell (p:=⟨w.heap.size,0,none⟩) (Nat.le_refl _) (.int .i64 n)
 go_wp2
 go_ret
 exact ⟨rfl,hfin⟩
set_option maxHeartbeats 1000000 in
theorem catch224_hit (p:Nat) (n:Int) (old:Value) (older:List PanicEntry) (w:World) (hp:w.heap[p]?=some (.cells #[old] 36 (0,0))) (hg:w.cell? ⟨0,0,none⟩=some (.iface 209 (.agg #[.pointer (some ⟨7,134,none⟩)]))) :
  CallsD Tryz.prog 224 #[.pointer (some ⟨p,0,none⟩)] (.panicking ({ v:=.iface 300 (.agg #[.int .i64 n]),recovered:=false } :: older)) w fun e u' w' =>
   e=.returned (.tuple #[])∧u'=.panicking ({ v:=.iface 300 (.agg #[.int .i64 n]),recovered:=true } :: older)∧w'.heap[p]?=some (.cells #[.int .i64 n] 36 (0,0))∧w.grownBy w' (some p):=by
 have hta:=caught225_hit n w hg
 refine callsD_of_wpS Tryz.func224 rfl fun c₀ cs hu=>?_
 apply wpS_region
 simp [wpOpsS,go_sem,recoverD,hu,Tryz.ntmps224,Exit.thenS]
 refine hta.mono ?_
 rintro e w' ⟨rfl,hb⟩
 have hp2:=bcell hb hp
 have c0:=blk_cell hp2 0
 have f0:=blk_frozen hp2 0
 have hfin:=blk_set hp2 0 (.int .i64 n)
 have hgr:w.grownBy (w'.setCell ⟨p,0,none⟩ (.int .i64 n)) (some p):=Lib.grownBy_trans (Lib.grownBy_below (World.grownBy.refl _ _) hb) (Lib.grownBy_setCell _ _ _ _)
 simp [go_sem,c0,f0,Oper.upon,Result.andThen]
 cases c₀
 simp_all [bodyPostS,results,Tryz.results224]
set_option maxHeartbeats 1000000 in
theorem fail255_yes (e:Int) (w:World):Calls Tryz.prog 255 #[.bool true,.int .i64 e] w fun en w'=>en=wrongAt 300 e∧w'=w:=by
 unfold wrongAt
 go_enter Tryz.func255,Tryz.ntmps255
 go_wp2
 exact ⟨rfl,rfl,rfl⟩
end Go.Proofs.YtjaobihcdkjmbaaGreatDoor
end
section
namespace Go.Proofs.YtjaobihcdkjmbaaGreatDoor
open Go.RowKit Go.Proofs.YtjaobihcdkjmbaaGreatDoorW.PrintWords Go.Proofs.YtjaobihcdkjmbaaGreatDoor.PReadTokens
theorem form_digs {s:ByteArray} (h:formB s=true):Digs (trimB s).data.toList∧0 < (trimB s).size:=by
 unfold formB at h
 simp only [Bool.and_eq_true,decide_eq_true_eq] at h
 refine ⟨fun c hc=>?_,h.1.1⟩
 have:=List.all_eq_true.1 h.2 c hc
 unfold digC at this
 simpa [Bool.and_eq_true] using this
def wchkF (s:ByteArray):Int:=if formB s=false then 1 else if 400 < (trimB s).size then 13 else 0
set_option maxRecDepth 100000 in
set_option maxHeartbeats 4000000 in
theorem wtaken_form (s:ByteArray) (hs:s.size≤9223372036854775807) (h:formB s=false) (w:World):Calls Tryz.prog 226 #[.string s] w fun e w'=>e=wrongAt 300 1∧Below w.heap.size w w':=by
 have hf:=Lib.hid (fun w=>form_calls s hs w)
 rw [h] at hf
 unfold wrongAt
 clear h
 go_enter Tryz.func226,Tryz.ntmps226
 go_wp2_with (go_at_call 256;refine (hf.out _).mono ?_;rintro e w1 ⟨rfl,hb1⟩)
 have hw1:=((Below.refl _ w).alloc (Nat.le_refl _) (.cells #[.int .i64 0,.slice none 0 0] 234)).trans (hb1.mono (by simp))
 have hy:=fail255_yes 1
 unfold wrongAt at hy
 go_wp2_with (go_at_call 255;refine (hy _).mono ?_;rintro e wq ⟨rfl,hq⟩;subst wq)
 exact ⟨rfl,rfl,hw1⟩
set_option maxRecDepth 100000 in
set_option maxHeartbeats 4000000 in
theorem wtaken_large (s:ByteArray) (hs:s.size≤9223372036854775807) (h:formB s=true) (hl:400 < (trimB s).size) (w:World):Calls Tryz.prog 226 #[.string s] w fun e w'=>e=wrongAt 300 13∧Below w.heap.size w w':=by
 have hf:=Lib.hid (fun w=>form_calls s hs w)
 rw [h] at hf
 have htp:=Lib.hid (fun w=>trim_calls s w)
 have hdl:decide (400 < ((trimB s).size:Int))=true:=decide_eq_true (by omega)
 have htz:=trim_size s
 generalize trimB s=t at *
 unfold wrongAt
 clear h hl
 have hb0:=(Below.refl _ w).alloc (Nat.le_refl _) (.cells #[.int .i64 0,.slice none 0 0] 234)
 go_enter Tryz.func226,Tryz.ntmps226
 go_wp2_with (go_at_call 256;refine (hf.out _).mono ?_;rintro e w1 ⟨rfl,hb1⟩)
 have hw1:=hb0.trans (hb1.mono (by simp))
 have hn:=fail255_no 1
 have hy:=fail255_yes 13
 unfold wrongAt at hy
 go_wp2_with (first
  | (go_at_call 255;refine (hn _).mono ?_;rintro e wq ⟨rfl,hq⟩;subst wq;clear hn)
  | (go_at_call 124;refine (htp.out _).mono ?_;rintro e wq ⟨rfl,k,rfl⟩)
  | (go_at_call 255;refine (hy _).mono ?_;rintro e wq ⟨rfl,hq⟩;subst wq))
 exact ⟨rfl,rfl,pw_below_drewN hw1 k⟩
set_option maxRecDepth 100000 in
set_option maxHeartbeats 4000000 in
theorem wtaken_ok (s:ByteArray) (hs:s.size≤9223372036854775807) (h:formB s=true) (hl:(trimB s).size≤400) (w:World):Calls Tryz.prog 226 #[.string s] w fun e w'=>(∃ v,e=.returned v)∧Below w.heap.size w w':=by
 have hf:=Lib.hid (fun w=>form_calls s hs w)
 rw [h] at hf
 have htp:=Lib.hid (fun w=>trim_calls s w)
 obtain ⟨d1,d2⟩:=form_digs h
 have hr:=Lib.hid (fun w=>callsIn_wide.1 (read_LN 9 s d1 d2 (by omega) w))
 have hdl:decide (400 < ((trimB s).size:Int))=false:=decide_eq_false (by omega)
 have htz:=trim_size s
 clear d1 d2
 generalize numV s=z at *
 generalize trimB s=t at *
 clear h hl
 have hh0:=blk_new w (.cells #[.int .i64 0,.slice none 0 0] 234)
 have hb0:=(Below.refl _ w).alloc (Nat.le_refl _) (.cells #[.int .i64 0,.slice none 0 0] 234)
 go_enter Tryz.func226,Tryz.ntmps226
 go_wp2_with (go_at_call 256;refine (hf.out _).mono ?_;rintro e w1 ⟨rfl,hb1⟩)
 have hw1:=hb0.trans (hb1.mono (by simp))
 have hh1:=bcell hb1 hh0
 go_wp2_with (first
  | (go_at_call 255;refine (fail255_no _ _).mono ?_;rintro e wq ⟨rfl,hq⟩;subst wq)
  | (go_at_call 124;refine (htp.out _).mono ?_;rintro e wq ⟨rfl,k,rfl⟩))
 have hw2:Below w.heap.size w (w1.drewN k):=pw_below_drewN hw1 k
 have hh2:(w1.drewN k).heap[w.heap.size]?=some (.cells #[.int .i64 0,.slice none 0 0] 234 (0,0)):=blk_drewN hh1 k
 generalize w1.drewN k=w2 at *
 refine (hr.out _).mono ?_
 rintro e w3 ⟨v,rfl,hv,hb3⟩
 obtain ⟨l,A,c,rfl,_⟩:=hv.out
 have hh3:=bcell hb3 hh2
 have d0:=blk_cell hh3 0
 have d1:=blk_cell hh3 1
 have f0:=blk_frozen hh3 0
 have f1:=blk_frozen hh3 1
 have hw3:=hw2.trans (hb3.mono hw2.size)
 clear hv
 go_wp2
 exact bodyPost_ret (results_c Tryz.results226 _ _ w.heap.size 234 _ (0,0) _ rfl (set2_fin _ _ hh3) Tryz.underlying234 rfl size234) rfl ⟨⟨_,rfl⟩,(hw3.setCell (p:=⟨w.heap.size,0,none⟩) (Nat.le_refl _) _).setCell (p:=⟨w.heap.size,1,none⟩) (Nat.le_refl _) _⟩
set_option maxRecDepth 100000 in
set_option maxHeartbeats 2000000 in
theorem wcheck_fails (s:ByteArray) (n:Int) (hn:∀ w,Calls Tryz.prog 226 #[.string s] w fun e w'=>e=wrongAt 300 n∧Below w.heap.size w w') (w:World) (hS:Start w):Calls Tryz.prog 187 #[.string s] w fun e w'=>e=.returned (.int .i64 n)∧Below w.heap.size w w':=by
 have hmf:∀ (fn:Fn) (first cap:Array Value) (w:World),(Instr.makeFunc fn first cap).run Tryz.prog w=.ok (.func fn first cap) w:=fun _ _ _ _=>rfl
 have hh0:=blk_new w (.cells #[.int .i64 0] 36)
 have hb0:=(Below.refl _ w).alloc (Nat.le_refl _) (.cells #[.int .i64 0] 36)
 have hge:=(hS.below hb0).err
 unfold wrongAt at hn
 have HN:=Lib.hid hn
 clear hn hS
 go_enter_defers Tryz.func187,Tryz.ntmps187
 go_wp2_with fail
 refine (HN.out _).mono ?_
 rintro e w1 ⟨rfl,hb1⟩
 have hr1:=bcell hb1 hh0
 have hbw:=hb0.trans (hb1.mono (by simp))
 have hg1:=pw_cell_below hb1 hge
 go_wp2
 refine leaves_cons (f:=224) (args:=#[.pointer (some ⟨w.heap.size,0,none⟩)]) (by simp) (by simp [go_sem]) ?_
 refine (catch224_hit w.heap.size n (.int .i64 0) [] w1 hr1 hg1).mono ?_
 rintro e u w3 ⟨rfl,rfl,hs3,hg3⟩
 have c4:w3.cell? ⟨w.heap.size,0,none⟩=some (.int .i64 n):=blk_cell hs3 0
 have hfin:Below w.heap.size w w3:=hbw.grown hg3 hbw.size (fun j e=>by injection e with e;omega)
 simp [Leaves,settle,results,Tryz.results187,go_sem,c4,hfin]
set_option maxRecDepth 100000 in
set_option maxHeartbeats 2000000 in
theorem wcheck_passes (s:ByteArray) (ht:∀ w,Calls Tryz.prog 226 #[.string s] w fun e w'=>(∃ v,e=.returned v)∧Below w.heap.size w w') (w:World):Calls Tryz.prog 187 #[.string s] w fun e w'=>e=.returned (.int .i64 0)∧Below w.heap.size w w':=by
 have hmf:∀ (fn:Fn) (first cap:Array Value) (w:World),(Instr.makeFunc fn first cap).run Tryz.prog w=.ok (.func fn first cap) w:=fun _ _ _ _=>rfl
 have hh0:=blk_new w (.cells #[.int .i64 0] 36)
 have hb0:=(Below.refl _ w).alloc (Nat.le_refl _) (.cells #[.int .i64 0] 36)
 have HT:=Lib.hid ht
 clear ht
 go_enter_defers Tryz.func187,Tryz.ntmps187
 go_wp2_with fail
 refine (HT.out _).mono ?_
 rintro e w1 ⟨⟨v,rfl⟩,hb1⟩
 have hr1:=bcell hb1 hh0
 have hbw:=hb0.trans (hb1.mono (by simp))
 have c1:=blk_cell hr1 0
 have f1':=blk_frozen hr1 0
 go_wp2
 have hr2:=blk_set hr1 0 (.int .i64 0)
 have hbw2:=hbw.setCell (p:=⟨w.heap.size,0,none⟩) (Nat.le_refl _) (.int .i64 0)
 generalize w1.setCell ⟨w.heap.size,0,none⟩ (.int .i64 0)=w2 at *
 refine leaves_cons (f:=224) (args:=#[.pointer (some ⟨w.heap.size,0,none⟩)]) (by simp) (by simp [go_sem]) ?_
 refine (catch224_idle w.heap.size (.int .i64 0) w2 hr2).mono ?_
 rintro e u w3 ⟨rfl,rfl,hw3⟩
 have c4:w3.cell? ⟨w.heap.size,0,none⟩=some (.int .i64 0):=by rw [hw3];exact blk_cell (blk_set hr2 0 (.int .i64 0)) 0
 have hfin:Below w.heap.size w w3:=by rw [hw3];exact hbw2.setCell (p:=⟨w.heap.size,0,none⟩) (Nat.le_refl _) _
 simp [Leaves,settle,results,Tryz.results187,go_sem,c4,hfin]
theorem wcheck_calls (s:ByteArray) (hs:s.size≤9223372036854775807) (w:World) (hS:Start w):Calls Tryz.prog 187 #[.string s] w fun e w'=>e=.returned (.int .i64 (wchkF s))∧Below w.heap.size w w':=by
 unfold wchkF
 by_cases h:formB s=false
 ·rw [if_pos h]
  exact wcheck_fails s 1 (fun w=>wtaken_form s hs h w) w hS
 ·have h':formB s=true:=by simpa using h
  rw [if_neg h]
  by_cases hl:400 < (trimB s).size
  ·rw [if_pos hl]
   exact wcheck_fails s 13 (fun w=>wtaken_large s hs h' hl w) w hS
  ·rw [if_neg hl]
   exact wcheck_passes s (fun w=>wtaken_ok s hs h' (by omega) w) w
end Go.Proofs.YtjaobihcdkjmbaaGreatDoor
end
