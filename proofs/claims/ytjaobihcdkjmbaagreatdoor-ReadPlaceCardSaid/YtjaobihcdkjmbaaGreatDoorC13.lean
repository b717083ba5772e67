/- The law ReadPlace answers true for every argument; a part of its proof. -/
import Derived.Test.YtjaobihcdkjmbaaGreatDoorCa
import Derived.Test.YtjaobihcdkjmbaaGreatDoorCb
import Derived.Test.YtjaobihcdkjmbaaGreatDoorC0
import Derived.Test.YtjaobihcdkjmbaaGreatDoorC11
set_option linter.unusedVariables false
set_option linter.unusedSimpArgs false
namespace Go.Proofs.YtjaobihcdkjmbaaGreatDoor.PReadTokens
end Go.Proofs.YtjaobihcdkjmbaaGreatDoor.PReadTokens
namespace Go.Proofs.YtjaobihcdkjmbaaGreatDoorW.PrintWords
end Go.Proofs.YtjaobihcdkjmbaaGreatDoorW.PrintWords
set_option maxRecDepth 100000
set_option maxHeartbeats 4000000
section
namespace Go.Proofs.YtjaobihcdkjmbaaGreatDoor
open Go.RowKit Go.Extern.Stop Go.Stop Go.Extern Go.Proofs.YtjaobihcdkjmbaaGreatDoorW.PrintWords Go.Proofs.YtjaobihcdkjmbaaGreatDoor.PReadTokens
theorem As.handle134:typeHandle Tryz.prog 134=.pointer (some ⟨7,134,none⟩):=kCX
theorem As.rlm (z:Sem Value) (f:TypeId→Addr→Nat→Nat→Sem Value) (v:Value) :
  ReflectliteValue.method z f #[v]=(do match ← ReflectliteValue.parts v with | none=>z | some (t,a,fl)=>f t a fl (fl % 32)):=rfl
theorem As.rls (v x:Value):ReflectliteValue.set #[v,x]=(do
  let (some (dst,a,fl),some (src,b,_)):=(← ReflectliteValue.parts v,← ReflectliteValue.parts x)
   | unsupported (.noEntry "extern/(internal/reflectlite.Value).Set.zeroValue")
  if fl / ReflectliteValue.flagAddr % 2 == 0 then unsupported (.noEntry "extern/(internal/reflectlite.Value).Set.unaddressable")
  let val ← loadVar src b
  if ← Rtype.directlyAssignable dst src then storeVar dst a val
  else if ← Rtype.implements dst src then
   if (← Rtype.kind src)==20 then
    match val with
    | .nilIface => unsupported (.noEntry "extern/reflectlite: a nil value of one interface type handed on as a value of another")
    | _=>storeVar dst a val
   else storeVar dst a (.iface src val)
  else panicString ("reflectlite.Set: value of type " ++ (← Rtype.spelt src) ++ " is not assignable to type " ++ (← Rtype.spelt dst))
  pure (.tuple #[])):=rfl
structure AsOk (A B:Nat):Prop where
 vB:∀(t:Addr) (w:World),(ReflectliteValue.unpack (.iface B (.pointer (some t)))).run Tryz.prog w=.ok (.agg #[.pointer (some ⟨7,B,none⟩),.pointer (some ⟨w.heap.size,0,none⟩),.int .u64 150]) (w.alloc (.cells #[.pointer (some t)] B))
 tB : ∀ (a : Addr) (w : World), (ReflectliteValue.methodAny (ReflectliteValue.valueError "reflectlite.Value.Type" 0) (fun t _ _ _ => ReflectliteType.toType t) #[.agg #[.pointer (some ⟨7, B, none⟩), .pointer (some a), .int .u64 150]]).run Tryz.prog w = .ok (.iface 209 (.agg #[.pointer (some ⟨7, B, none⟩)])) w
 kB:∀(w:World),((ReflectliteType.abiMethod fun t=>(fun a:Nat=>Value.int IntKind.u8 (a:Int)) <$> Rtype.kind t) #[.pointer (some ⟨7,B,none⟩)]).run Tryz.prog w=.ok (.int .u8 22) w
 kA:∀(w:World),((ReflectliteType.abiMethod fun t=>(fun a:Nat=>Value.int IntKind.u8 (a:Int)) <$> Rtype.kind t) #[.pointer (some ⟨7,A,none⟩)]).run Tryz.prog w=.ok (.int .u8 25) w
 pB:∀(a:Addr) (w:World),(ReflectliteValue.parts (.agg #[.pointer (some ⟨7,B,none⟩),.pointer (some a),.int .u64 150])).run Tryz.prog w=.ok (some (B,a,150)) w
 eB:∀(w:World),(ReflectliteType.method ReflectliteType.elem #[.agg #[.pointer (some ⟨7,B,none⟩)]]).run Tryz.prog w=.ok (.iface 209 (.agg #[.pointer (some ⟨7,A,none⟩)])) w
 iA : ∀ (w : World), (ReflectliteType.relation "Implements" ReflectliteType.implements_ #[.agg #[.pointer (some ⟨7, A, none⟩)], .iface 209 (.agg #[.pointer (some ⟨7, 134, none⟩)])]).run Tryz.prog w = .ok (.bool true) w
 oA:∀(v:Value) (w:World),(ReflectliteType.typeOf #[.iface A v]).run Tryz.prog w=.ok (.iface 209 (.agg #[.pointer (some ⟨7,A,none⟩)])) w
 aA : ∀ (w : World), (ReflectliteType.relation "AssignableTo" ReflectliteType.assignableTo #[.agg #[.pointer (some ⟨7, A, none⟩)], .iface 209 (.agg #[.pointer (some ⟨7, A, none⟩)])]).run Tryz.prog w = .ok (.bool true) w
 vA:∀(n:Int) (w:World),(ReflectliteValue.unpack (.iface A (.agg #[.int .i64 n]))).run Tryz.prog w=.ok (.agg #[.pointer (some ⟨7,A,none⟩),.pointer (some ⟨w.heap.size,0,none⟩),.int .u64 153]) (w.alloc (.cells #[.int .i64 n] A))
 mB:∀(w:World),(Rtype.elem? B).run Tryz.prog w=.ok (some A) w
 mA:∀(p:Addr) (w:World),(ReflectliteValue.mk A p ReflectliteValue.flagAddr).run Tryz.prog w=.ok (.agg #[.pointer (some ⟨7,A,none⟩),.pointer (some p),.int .u64 409]) w
 qA:∀(a:Addr) (w:World),(ReflectliteValue.parts (.agg #[.pointer (some ⟨7,A,none⟩),.pointer (some a),.int .u64 409])).run Tryz.prog w=.ok (some (A,a,409)) w
 pA:∀(a:Addr) (w:World),(ReflectliteValue.parts (.agg #[.pointer (some ⟨7,A,none⟩),.pointer (some a),.int .u64 153])).run Tryz.prog w=.ok (some (A,a,153)) w
 dA:∀(w:World),(Rtype.directlyAssignable A A).run Tryz.prog w=.ok true w
 sA:∀(w:World),(sizeOf A).run Tryz.prog w=.ok 1 w
 nA:(Tryz.prog.info? A).map (·.size)=some 1
 uA:∃f,Tryz.prog.underlying A=some (.struct #[f])
 uB:Tryz.prog.underlying B=some (.pointer A)
theorem AsOk.isNil {A B:Nat} (K:AsOk A B) (a p:Addr) (W:World) (ha:W.cell? a=some (.pointer (some p))) :
  (ReflectliteValue.method (ReflectliteValue.valueError "reflectlite.Value.IsNil" 0) ReflectliteValue.isNil #[.agg #[.pointer (some ⟨7, B, none⟩), .pointer (some a), .int .u64 150]]).run Tryz.prog W = .ok (.bool false) W := by
 rw[As.rlm];simp only[kCj,K.pB,Result.andThen];simp[ReflectliteValue.isNil,loadVar,isAgg,underlying,K.uB,ha,Result.andThen]
theorem AsOk.elemV {A B:Nat} (K:AsOk A B) (a p:Addr) (W:World) (ha:W.cell? a=some (.pointer (some p))) :
  (ReflectliteValue.method (ReflectliteValue.valueError "reflectlite.Value.Elem" 0) ReflectliteValue.elem #[.agg #[.pointer (some ⟨7, B, none⟩), .pointer (some a), .int .u64 150]]).run Tryz.prog W
   = .ok (.agg #[.pointer (some ⟨7,A,none⟩),.pointer (some p),.int .u64 409]) W:=by
 rw[As.rlm];simp only[kCj,K.pB,Result.andThen];simp[ReflectliteValue.elem,loadVar,isAgg,underlying,K.uB,ha,Result.andThen,K.mB,K.mA]
theorem AsOk.set {A B:Nat} (K:AsOk A B) (ta:Nat) (b:Nat) (n:Int) (cs0:Array Value) (old:Value) (t0:TypeId) (W:World) (hb:W.heap[b]?=some (.cells #[.int .i64 n] A (0,0))) (ht:W.heap[ta]?=some (.cells #[old] A (0,0))) :
  (ReflectliteValue.set #[.agg #[.pointer (some ⟨7,A,none⟩),.pointer (some ⟨ta,0,none⟩),.int .u64 409],.agg #[.pointer (some ⟨7,A,none⟩),.pointer (some ⟨b,0,none⟩),.int .u64 153]]).run Tryz.prog W
   = .ok (.tuple #[]) (W.setCell ⟨ta,0,none⟩ (.int .i64 n)):=by
 rw[As.rls];obtain⟨fA,uA⟩:=K.uA;have hl:=kC3 (P:=Tryz.prog) W b A A #[.int .i64 n] (0,0) _ hb uA rfl K.nA;have c:=zA1 ht 0;have f:=zA2 ht 0;simp only[kCj,K.qA,K.pA,Result.andThen];simp[ReflectliteValue.flagAddr,hl,Result.andThen,K.dA,K.sA,storeVar,Value.cells,storeCells,Addr.add];rw[run_store Tryz.prog W _ _ _ kD9];have c':W.cell? ⟨ta,0,none⟩=some old:=c;simp[c',f]
theorem As.methodKind (h : Value) (w : World) : (Go.method 467 209 (.agg #[h]) "Kind").run Tryz.prog w = .ok (304, h) w := by kernel_rfl
theorem As.methodElem (h : Value) (w : World) : (Go.method 467 209 (.agg #[h]) "Elem").run Tryz.prog w = .ok (320, .agg #[h]) w := by kernel_rfl
theorem As.methodImplements (h : Value) (w : World) : (Go.method 467 209 (.agg #[h]) "Implements").run Tryz.prog w = .ok (321, .agg #[h]) w := by kernel_rfl
theorem As.methodAssignableTo (h : Value) (w : World) : (Go.method 467 209 (.agg #[h]) "AssignableTo").run Tryz.prog w = .ok (318, .agg #[h]) w := by kernel_rfl
theorem as_hitG {A B:Nat} (K:AsOk A B) (n:Int) (ta:Nat) (old:Value) (w:World) (hg:w.cell? ⟨0,0,none⟩=some (.iface 209 (.agg #[.pointer (some ⟨7,134,none⟩)]))) (ht:w.heap[ta]?=some (.cells #[old] A (0,0))) :
  Calls Tryz.prog 91 #[.iface A (.agg #[.int .i64 n]),.iface B (.pointer (some ⟨ta,0,none⟩))] w fun e w'=>e=.returned (.bool true)∧∃W,Below w.heap.size w W∧w'=W.setCell ⟨ta,0,none⟩ (.int .i64 n):=by
 have h129:=@kBl Tryz.prog 129 _ (fun args=>ReflectliteValue.unpack (args.getD 0 (.tuple #[]))) Tryz.func129 kCX kCX kCX kCX
 have h130 := @kBl Tryz.prog 130 _ (ReflectliteValue.methodAny (ReflectliteValue.valueError "reflectlite.Value.Type" 0) (fun t _ _ _ => ReflectliteType.toType t)) Tryz.func130 kCX kCX kCX kCX
 have h131 := @kBl Tryz.prog 131 _ (ReflectliteValue.method (ReflectliteValue.valueError "reflectlite.Value.IsNil" 0) ReflectliteValue.isNil) Tryz.func131 kCX kCX kCX kCX
 have h304:=@kBl Tryz.prog 304 _ (ReflectliteType.abiMethod fun t=>do pure (.int .u8 (← Rtype.kind t))) Tryz.func304 kCX kCX kCX kCX;have h320:=@kBl Tryz.prog 320 _ (ReflectliteType.method ReflectliteType.elem) Tryz.func320 kCX kCX kCX kCX
 have h321 := @kBl Tryz.prog 321 _ (ReflectliteType.relation "Implements" ReflectliteType.implements_) Tryz.func321 kCX kCX kCX kCX
 have h153:=@kBl Tryz.prog 153 _ ReflectliteType.typeOf Tryz.func153 kCX kCX kCX kCX
 have h318 := @kBl Tryz.prog 318 _ (ReflectliteType.relation "AssignableTo" ReflectliteType.assignableTo) Tryz.func318 kCX kCX kCX kCX
 have h154 := @kBl Tryz.prog 154 _ (ReflectliteValue.method (ReflectliteValue.valueError "reflectlite.Value.Elem" 0) ReflectliteValue.elem) Tryz.func154 kCX kCX kCX kCX
 have h155:=@kBl Tryz.prog 155 _ ReflectliteValue.set Tryz.func155 kCX kCX kCX kCX;have tO:=K.oA;have mA:=As.methodAssignableTo;have a25:=K.aA;have v25:=K.vA;have f6:=K.vB;have f7:=K.tB;have mK:=As.methodKind;have mE:=As.methodElem;have mI:=As.methodImplements;have k27:=K.kB;have k25:=K.kA;have e27:=K.eB;have i25:=K.iA;have htl:=zA5 ht;have hlt:0<w.heap.size:=kCW
 obtain⟨V,hV⟩:∃V:Obj,V=.cells #[.pointer (some ⟨7,B,none⟩),.pointer (some ⟨w.heap.size,0,none⟩),.int .u64 150] 183:=⟨_,rfl⟩;have n8:=K.isNil ⟨w.heap.size,0,none⟩ ⟨ta,0,none⟩ ((w.alloc (.cells #[.pointer (some ⟨ta,0,none⟩)] B)).alloc (.cells #[.pointer (some ⟨7,B,none⟩),.pointer (some ⟨w.heap.size,0,none⟩),.int .u64 150] 183)) kCY;have hg2:((w.alloc (.cells #[.pointer (some ⟨ta,0,none⟩)] B)).alloc (.cells #[.pointer (some ⟨7,B,none⟩),.pointer (some ⟨w.heap.size,0,none⟩),.int .u64 150] 183)).cell? ⟨0,0,none⟩=some (.iface 209 (.agg #[.pointer (some ⟨7,134,none⟩)])):=by
  rw[kBy _ _ ⟨0,0,none⟩ kCY,kBy _ _ ⟨0,0,none⟩ hlt];exact hg
 have el:=K.elemV ⟨w.heap.size,0,none⟩ ⟨ta,0,none⟩ (((w.alloc (.cells #[.pointer (some ⟨ta,0,none⟩)] B)).alloc (.cells #[.pointer (some ⟨7,B,none⟩),.pointer (some ⟨w.heap.size,0,none⟩),.int .u64 150] 183)).alloc (.cells #[.pointer (some ⟨7,B,none⟩),.pointer (some ⟨w.heap.size,0,none⟩),.int .u64 150] 183)) (by rw[kBy _ _ ⟨w.heap.size,0,none⟩ kCZ];simp);have st:=K.set ta (w.heap.size+1+1+1) n #[] old 0 ((((w.alloc (.cells #[.pointer (some ⟨ta,0,none⟩)] B)).alloc (.cells #[.pointer (some ⟨7,B,none⟩),.pointer (some ⟨w.heap.size,0,none⟩),.int .u64 150] 183)).alloc (.cells #[.pointer (some ⟨7,B,none⟩),.pointer (some ⟨w.heap.size,0,none⟩),.int .u64 150] 183)).alloc (.cells #[.int .i64 n] A))
  (zAB _ _ _ kCY)
  ((kA4 _ _ _ kCZ).trans ((kA4 _ _ _ kCZ).trans ((kA4 _ _ _ kCZ).trans ((kA4 _ _ _ htl).trans ht))))
 go_enter Tryz.func91,Tryz.ntmps91;go_wp2;refine wp_loop_rounds 1 ?_;rw[rounds_succ];go_wp2;go_ret;exact⟨rfl,_,((((kA3 _ w).alloc (kA2 _) _).alloc kCY _).alloc kCZ _).alloc kCZ _,rfl⟩
theorem as_ok137:AsOk 137 139:=⟨fun _ _=>by kernel_rfl,fun _ _=>by kernel_rfl,fun _=>by kernel_rfl,fun _=>by kernel_rfl,fun _ _=>by kernel_rfl,fun _=>by kernel_rfl,fun _=>by kernel_rfl,fun _ _=>by kernel_rfl,fun _=>by kernel_rfl,fun _ _=>by kernel_rfl,fun _=>by kernel_rfl,fun _ _=>by kernel_rfl,fun _ _=>by kernel_rfl,fun _ _=>by kernel_rfl,fun _=>by kernel_rfl,fun _=>by kernel_rfl,kCX,⟨_,Tryz.underlying137⟩,Tryz.underlying139⟩
theorem as_ok159:AsOk 159 160:=⟨fun _ _=>by kernel_rfl,fun _ _=>by kernel_rfl,fun _=>by kernel_rfl,fun _=>by kernel_rfl,fun _ _=>by kernel_rfl,fun _=>by kernel_rfl,fun _=>by kernel_rfl,fun _ _=>by kernel_rfl,fun _=>by kernel_rfl,fun _ _=>by kernel_rfl,fun _=>by kernel_rfl,fun _ _=>by kernel_rfl,fun _ _=>by kernel_rfl,fun _ _=>by kernel_rfl,fun _=>by kernel_rfl,fun _=>by kernel_rfl,kCX,⟨_,Tryz.underlying159⟩,Tryz.underlying160⟩
theorem as_ok253:AsOk 253 254:=⟨fun _ _=>by kernel_rfl,fun _ _=>by kernel_rfl,fun _=>by kernel_rfl,fun _=>by kernel_rfl,fun _ _=>by kernel_rfl,fun _=>by kernel_rfl,fun _=>by kernel_rfl,fun _ _=>by kernel_rfl,fun _=>by kernel_rfl,fun _ _=>by kernel_rfl,fun _=>by kernel_rfl,fun _ _=>by kernel_rfl,fun _ _=>by kernel_rfl,fun _ _=>by kernel_rfl,fun _=>by kernel_rfl,fun _=>by kernel_rfl,kCX,⟨_,Tryz.underlying253⟩,Tryz.underlying254⟩
theorem as_ok300:AsOk 300 301:=⟨fun _ _=>by kernel_rfl,fun _ _=>by kernel_rfl,fun _=>by kernel_rfl,fun _=>by kernel_rfl,fun _ _=>by kernel_rfl,fun _=>by kernel_rfl,fun _=>by kernel_rfl,fun _ _=>by kernel_rfl,fun _=>by kernel_rfl,fun _ _=>by kernel_rfl,fun _=>by kernel_rfl,fun _ _=>by kernel_rfl,fun _ _=>by kernel_rfl,fun _ _=>by kernel_rfl,fun _=>by kernel_rfl,fun _=>by kernel_rfl,kCX,⟨_,Tryz.underlying300⟩,Tryz.underlying301⟩
end Go.Proofs.YtjaobihcdkjmbaaGreatDoor
end
section
namespace Go.Proofs.YtjaobihcdkjmbaaGreatDoor
open Go.RowKit Go.Proofs.YtjaobihcdkjmbaaGreatDoorW.PrintWords Go.Proofs.YtjaobihcdkjmbaaGreatDoor.PReadTokens
theorem g_low {W T z H u D q x:Int} (hW:0<W) (hu:u=x+W*T) (hx1:x<W) (hD:D=z+W*H) (hz0:0≤z) (hq0:0≤q) (hqD:q*D≤u):q*H≤T:=by
 rcases (show T<q*H∨q*H≤T by omega) with h | h
 ·exfalso;have h1:W*(T+1)≤W*(q*H):=kAF kCW (kBd hW);have h2:0≤q*z:=kCe hq0 hz0;have h3:q*D=q*z+W*(q*H):=by rw[hD,kBz,← kAW,kBe q W,kAW]
  rw[kBz,kCS] at h1;omega
 ·exact h
theorem g_up {W T z H u D q x g:Int} (hW:0<W) (hu:u=x+W*T) (hx0:0≤x) (hD:D=z+W*H) (hz0:0≤z) (hz1:z<W) (hDp:0<D) (hgH:g*H≤T) (h1:1≤g) (hgl:g-1≤H) (hq:u<(q+1)*D):g≤q+1:=by
 have a1:(g-1)*z≤(g-1)*W:=kAF kCW kCW;have a2:(g-1)*D=(g-1)*z+W*((g-1)*H):=by rw[hD,kBz,← kAW,kBe (g-1) W,kAW]
 have a3:(g-1)*H=g*H-H:=by rw[Int.sub_mul,kCk]
 have a4:W*((g-1)*H)+(g-1)*W=W*((g-1)*H+(g-1)):=by rw[kBz,kBe W (g-1)]
 have a5:W*((g-1)*H+(g-1))≤W*T:=kAF kCW (kBd hW);have a6:(g-1)*D<(q+1)*D:=kCW
 have:=Int.lt_of_mul_lt_mul_right a6 (kBd hDp);omega
structure Guess (u D q x z W top u2 h nx:Int):Prop where
 hW:0<W
 hu:u=x+W*(top*1000000000+u2)
 hx0:0≤x
 hx1:x<W
 hD:D=z+W*(h*1000000000+nx)
 hz0:0≤z
 hz1:z<W
 hn0:0≤nx
 hn1:nx<1000000000
 h20:0≤u2
 h21:u2<1000000000
 hh0:500000000≤h
 hh1:h<1000000000
 ht0:0≤top
 hDp:0<D
 hq0:0≤q
 hq1:q<1000000000
 hqD:q*D≤u
 hqD2:u<(q+1)*D
theorem Guess.top {u D q x z W top u2 h nx:Int} (g:Guess u D q x z W top u2 h nx):top<h*1000000000+1000000000:=by
 have hq1:=g.hq1;have hDp:=g.hDp;have h1:(q+1)*D≤1000000000*D:=kB2 kCW kCW;have h2:=g.hqD2;have h3:W*(top*1000000000+u2)<W*(1000000000*(h*1000000000+nx+1)):=by
  have:=g.hu;have:=g.hD;have:=g.hx0;have:=g.hz1;have e:W*(1000000000*(h*1000000000+nx+1))=1000000000*(W*(h*1000000000+nx))+1000000000*W:=by
   rw[Int.mul_left_comm,kBz W _ 1,kCS,kBz]
  rw[e];omega
 have h4:=Int.lt_of_mul_lt_mul_left h3 (kBd g.hW);have:=g.hn1;have:=g.h20;omega
theorem Guess.start {u D q x z W top u2 h nx:Int} (g:Guess u D q x z W top u2 h nx):q≤top / h∧top / h≤1000000001:=by
 have hh:=g.hh0;refine⟨(Int.le_ediv_iff_mul_le kCW).2 ?_,?_⟩
 ·have h1:=g_low g.hW g.hu g.hx1 g.hD g.hz0 g.hq0 g.hqD;have h2:0≤q*nx:=kCe g.hq0 g.hn0;rw[kBz,← kAW] at h1;have:=g.h21;omega
 ·have h1:=g.top;have:top / h<1000000002:=kCK kCW kCW;omega
theorem Guess.more {u D q x z W top u2 h nx gs left:Int} (g:Guess u D q x z W top u2 h nx) (hgl:gs*h+left=top) (hc:left*1000000000+u2<gs*nx):q≤gs-1:=by
 have h1:=g_low g.hW g.hu g.hx1 g.hD g.hz0 g.hq0 g.hqD;rcases (show q<gs∨gs≤q by omega) with hq | hq
 ·omega
 ·exfalso;have:=g.hh0;have:=g.hn0;have h2:gs*(h*1000000000+nx)≤q*(h*1000000000+nx):=kB2 hq kCW;rw[kBz gs,← kAW] at h2;omega
theorem Guess.less {u D q x z W top u2 h nx gs left:Int} (g:Guess u D q x z W top u2 h nx) (hgl:gs*h+left=top) (h0:0≤gs) (h1:gs≤1000000000) (hc:gs*nx≤left*1000000000+u2):gs≤q+1:=by
 rcases (show 0<gs∨gs≤0 by omega) with h | h
 ·refine g_up g.hW g.hu g.hx0 g.hD g.hz0 g.hz1 g.hDp ?_ kCW (by have:=g.hh0;have:=g.hn0;omega) g.hqD2;rw[kBz,← kAW];omega
 ·have:=g.hq0;omega
theorem Guess.less2 {u D q x z W top u2 h nx gs left:Int} (g:Guess u D q x z W top u2 h nx) (hgl:gs*h+left=top) (h0:0≤gs) (h1:gs≤1000000000) (hc:1000000000≤left):gs≤q+1:=by
 refine g.less hgl h0 h1 ?_;have h2:gs*nx≤1000000000*999999999:=Int.mul_le_mul h1 (by have:=g.hn1;omega) g.hn0 kCW;have:=g.h20;omega
theorem by_great {v:Int} (h0:1≤v) (h1:v<1000000000):500000000≤v*(1000000000 / (v+1))∧1≤1000000000 / (v+1)∧(v+1)*(1000000000 / (v+1))≤1000000000:=by
 have e:=kBN 1000000000 (v+1);have r0:=kBH 1000000000 (show v+1≠0 by omega);have r1:=kBq 1000000000 (show 0<v+1 by omega);have hb:1≤1000000000 / (v+1):=(Int.le_ediv_iff_mul_le kCW).2 kCW;generalize 1000000000 / (v+1)=b at *;have h2:0≤(v-1)*(b-1):=kCe kCW kCW;have h3:(v-1)*(b-1)=v*b-v-b+1:=by rw[Int.sub_mul,Int.mul_sub];omega
 have h4:(v+1)*b=v*b+b:=by rw[Int.add_mul,kCk]
 refine⟨?_,hb,?_⟩<;>omega
end Go.Proofs.YtjaobihcdkjmbaaGreatDoor
end
