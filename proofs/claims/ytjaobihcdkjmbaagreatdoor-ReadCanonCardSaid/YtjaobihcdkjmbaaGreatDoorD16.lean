/- What can be read as an expression is printed as a text that reads as the same, and is printed as itself: for every argument; a part of its proof. -/
import Derived.Test.YtjaobihcdkjmbaaGreatDoorDa
import Derived.Test.YtjaobihcdkjmbaaGreatDoorDb
import Derived.Test.YtjaobihcdkjmbaaGreatDoorD0
import Derived.Test.YtjaobihcdkjmbaaGreatDoorD7
import Derived.Test.YtjaobihcdkjmbaaGreatDoorD11
import Derived.Test.YtjaobihcdkjmbaaGreatDoorD13
set_option linter.unusedVariables false
set_option linter.unusedSimpArgs false
namespace Go.Proofs.YtjaobihcdkjmbaaGreatDoor.PReadTokens
end Go.Proofs.YtjaobihcdkjmbaaGreatDoor.PReadTokens
namespace Go.Proofs.YtjaobihcdkjmbaaGreatDoorW.PrintWords
end Go.Proofs.YtjaobihcdkjmbaaGreatDoorW.PrintWords
set_option maxRecDepth 100000
set_option maxHeartbeats 4000000
section
namespace Go.Proofs.YtjaobihcdkjmbaaGreatDoor
open Go.RowKit Go.Proofs.YtjaobihcdkjmbaaGreatDoorW.PrintWords Go.Proofs.YtjaobihcdkjmbaaGreatDoor.PReadTokens
section
abbrev PR:=Except Int (S31×Nat)
def bs (l:List UInt8):ByteArray:=⟨l.toArray⟩
section
variable (ts:List S47) (en:Nat) (chk:S28→Int)
def sk (now:Nat) (x:ByteArray):Bool:=zG1 (tokP ts en now) x
def atP (now:Nat):Int:=(tokP ts en now).f2
def zFl (r:S28) (now:Nat):PR:=if (tokP ts en now).f0=3 then .ok (⟨0,r,(tokP ts en now).f1,0,[]⟩,now+1) else .ok (⟨0,r,⟨#[]⟩,0,[]⟩,now)
def litS (now:Nat):PR :=
 if sk ts en (now+1) ⟨#[124]⟩=true then
  if (tokP ts en (now+2)).f0=2∧(tokP ts en (now+2)).f1.toList≠[49]∧chk ⟨(tokP ts en now).f1,(tokP ts en (now+2)).f1⟩=0 then zFl ts en ⟨(tokP ts en now).f1,(tokP ts en (now+2)).f1⟩ (now+3)
  else .error (atP ts en (now+2))
 else zFl ts en ⟨(tokP ts en now).f1,⟨#[49]⟩⟩ (now+1)
def zF4 (ex:Nat→PR) (close:ByteArray):Nat→List S31→Nat→Except Int (List S31×Nat)
 | 0,_,now=>.error (atP ts en now)
 | k+1,acc,now =>
  match ex now with
  | .error p=>.error p
  | .ok (x,n) =>
   if (acc++[x]).length<8∧sk ts en n ⟨#[44]⟩=true then zF4 ex close k (acc++[x]) (n+1)
   else if sk ts en n close=true then .ok (acc++[x],n+1) else .error (atP ts en n)
def atomS (ex:Nat→PR) (now:Nat):PR :=
 if (tokP ts en now).f0=2 then litS ts en chk now
 else if (tokP ts en now).f0=0 then
  if sk ts en (now+1) ⟨#[40]⟩=true then
   if sk ts en (now+2) ⟨#[41]⟩=true then .ok (⟨14,z28,(tokP ts en now).f1,0,[]⟩,now+3)
   else match zF4 ts en ex ⟨#[41]⟩ 8 [] (now+2) with
    | .error p=>.error p
    | .ok (xs,n)=>.ok (⟨14,z28,(tokP ts en now).f1,0,xs⟩,n)
  else .ok (⟨1,z28,(tokP ts en now).f1,0,[]⟩,now+1)
 else if sk ts en now ⟨#[40]⟩=true then
  match ex (now+1) with
  | .error p=>.error p
  | .ok (x,n)=>if sk ts en n ⟨#[41]⟩=true then .ok (x,n+1) else .error (atP ts en n)
 else if sk ts en now ⟨#[91]⟩=true then
  match zF4 ts en ex ⟨#[93]⟩ 8 [] (now+1) with
  | .error p=>.error p
  | .ok (xs,n)=>.ok (⟨8,z28,⟨#[]⟩,0,xs⟩,n)
 else .error (atP ts en now)
def twoX (op:Int) (a b:S31):S31:=⟨op,z28,⟨#[]⟩,0,[a,b]⟩
def zBZ (ex:Nat→PR):Nat→S31→Nat→PR
 | 0,x,n=>.ok (x,n)
 | k+1,x,n =>
  if sk ts en n ⟨#[91]⟩=true then
   match ex (n+1) with
   | .error p=>.error p
   | .ok (y,m)=>if sk ts en m ⟨#[93]⟩=true then zBZ ex k (twoX 9 x y) (m+1) else .error (atP ts en m)
  else .ok (x,n)
def zCF (ex:Nat→PR) (now:Nat):PR :=
 match atomS ts en chk ex now with
 | .error p=>.error p
 | .ok (x,n)=>zBZ ts en ex (ts.length+1) x n
def zCR (ex:Nat→PR) (now:Nat):PR :=
 match zCF ts en chk ex now with
 | .error p=>.error p
 | .ok (x,n) =>
  if sk ts en n ⟨#[94]⟩=true then
   if sk ts en (n+1) ⟨#[45]⟩=true then
    match numS ts en 1 9 (n+2) with
    | .error p=>.error p
    | .ok (v,m)=>.ok (⟨7,z28,⟨#[]⟩,-v,[x]⟩,m)
   else
    match numS ts en 0 9 (n+1) with
    | .error p=>.error p
    | .ok (v,m)=>.ok (⟨7,z28,⟨#[]⟩,v,[x]⟩,m)
  else .ok (x,n)
def zBA (ex:Nat→PR):Nat→S31→Nat→PR
 | 0,x,n=>.ok (x,n)
 | k+1,x,n =>
  if sk ts en n ⟨#[42]⟩=true then
   match zCR ts en chk ex (n+1) with
   | .error p=>.error p
   | .ok (y,m)=>zBA ex k (twoX 5 x y) m
  else if sk ts en n ⟨#[47]⟩=true then
   match zCR ts en chk ex (n+1) with
   | .error p=>.error p
   | .ok (y,m)=>zBA ex k (twoX 6 x y) m
  else .ok (x,n)
def zAX (ex:Nat→PR) (now:Nat):PR :=
 match zCR ts en chk ex now with
 | .error p=>.error p
 | .ok (x,n)=>zBA ts en chk ex (ts.length+1) x n
def zB2 (ex:Nat→PR):Nat→S31→Nat→PR
 | 0,x,n=>.ok (x,n)
 | k+1,x,n =>
  if sk ts en n ⟨#[43]⟩=true then
   match zAX ts en chk ex (n+1) with
   | .error p=>.error p
   | .ok (y,m)=>zB2 ex k (twoX 3 x y) m
  else if sk ts en n ⟨#[45]⟩=true then
   match zAX ts en chk ex (n+1) with
   | .error p=>.error p
   | .ok (y,m)=>zB2 ex k (twoX 4 x y) m
  else .ok (x,n)
def zD2 (ex:Nat→PR) (now:Nat):PR :=
 if sk ts en now ⟨#[45]⟩=true then
  match zAX ts en chk ex (now+1) with
  | .error p=>.error p
  | .ok (x,n)=>zB2 ts en chk ex (ts.length+1) ⟨2,z28,⟨#[]⟩,0,[x]⟩ n
 else
  match zAX ts en chk ex now with
  | .error p=>.error p
  | .ok (x,n)=>zB2 ts en chk ex (ts.length+1) x n
def loopS (ex:Nat→PR) (op:Int) (now:Nat):PR :=
 if (tokP ts en now).f0=0 then
  if sk ts en (now+1) ⟨#[60]⟩=true then
   match numS ts en 1 99 (now+2) with
   | .error p=>.error p
   | .ok (v,m) =>
    if sk ts en m ⟨#[46]⟩=true then
     match ex (m+1) with
     | .error p=>.error p
     | .ok (x,n)=>.ok (⟨op,z28,(tokP ts en now).f1,v,[x]⟩,n)
    else .error (atP ts en m)
  else .error (atP ts en (now+1))
 else .error (atP ts en now)
def letS (ex:Nat→PR) (now:Nat):PR :=
 if (tokP ts en now).f0=0 then
  if sk ts en (now+1) ⟨#[61]⟩=true then
   match ex (now+2) with
   | .error p=>.error p
   | .ok (a,n) =>
    if sk ts en n ⟨#[105,110]⟩=true then
     match ex (n+1) with
     | .error p=>.error p
     | .ok (b,m)=>.ok (⟨13,z28,(tokP ts en now).f1,0,[a,b]⟩,m)
    else .error (atP ts en n)
  else .error (atP ts en (now+1))
 else .error (atP ts en now)
def ifS (ex:Nat→PR) (now:Nat):PR :=
 match zD2 ts en chk ex now with
 | .error p=>.error p
 | .ok (a,n1) =>
  if sk ts en n1 ⟨#[60]⟩=true then
   match zD2 ts en chk ex (n1+1) with
   | .error p=>.error p
   | .ok (b,n2) =>
    if sk ts en n2 ⟨#[116,104,101,110]⟩=true then
     match ex (n2+1) with
     | .error p=>.error p
     | .ok (c,n3) =>
      if sk ts en n3 ⟨#[101,108,115,101]⟩=true then
       match ex (n3+1) with
       | .error p=>.error p
       | .ok (d,n4)=>.ok (⟨12,z28,⟨#[]⟩,0,[a,b,c,d]⟩,n4)
      else .error (atP ts en n3)
    else .error (atP ts en n2)
  else .error (atP ts en n1)
def exprB (ex:Nat→PR) (now:Nat):PR :=
 if sk ts en now ⟨#[108,101,116]⟩=true then letS ts en ex (now+1)
 else if sk ts en now ⟨#[105,102]⟩=true then ifS ts en chk ex (now+1)
 else if sk ts en now ⟨#[116,97,98]⟩=true then loopS ts en ex 10 (now+1)
 else if sk ts en now ⟨#[115,117,109]⟩=true then loopS ts en ex 11 (now+1)
 else zD2 ts en chk ex now
def zF9:Nat→Nat→PR
 | 0,now=>.error (atP ts en now)
 | k+1,now=>exprB ts en chk (zF9 k) now
end
end
end Go.Proofs.YtjaobihcdkjmbaaGreatDoor
end
section
namespace Go.Proofs.YtjaobihcdkjmbaaGreatDoor
open Go.RowKit Go.Extern.Stop Go.Stop Go.Extern Go.Proofs.YtjaobihcdkjmbaaGreatDoorW.PrintWords Go.Proofs.YtjaobihcdkjmbaaGreatDoor.PReadTokens
theorem As.handle134:typeHandle Tryz.prog 134=.pointer (some ⟨7,134,none⟩):=kD5
theorem As.rlm (z:Sem Value) (f:TypeId→Addr→Nat→Nat→Sem Value) (v:Value) :
  ReflectliteValue.method z f #[v]=(do match ← ReflectliteValue.parts v with | none=>z | some (t,a,fl)=>f t a fl (fl % 32)):=rfl
theorem As.rls (v x:Value):ReflectliteValue.set #[v,x]=(do
  let (some (dst,a,fl),some (src,b,_)):=(← ReflectliteValue.parts v,← ReflectliteValue.parts x)
   | unsupported (.noEntry "extern/(internal/reflectlite.Value).Set.zeroValue")
  if fl / ReflectliteValue.flagAddr % 2 == 0 then unsupported (.noEntry "extern/(internal/reflectlite.Value).Set.unaddressable")
  let val ← loadVar src b
  if ← Rtype.directlyAssignable dst src then storeVar dst a val
  else if ← Rtype.implements dst src then
   if (← Rtype.kind src)==20 then
    match val with
    | .nilIface => unsupported (.noEntry "extern/reflectlite: a nil value of one interface type handed on as a value of another")
    | _=>storeVar dst a val
   else storeVar dst a (.iface src val)
  else panicString ("reflectlite.Set: value of type " ++ (← Rtype.spelt src) ++ " is not assignable to type " ++ (← Rtype.spelt dst))
  pure (.tuple #[])):=rfl
structure AsOk (A B:Nat):Prop where
 vB:∀(t:Addr) (w:World),(ReflectliteValue.unpack (.iface B (.pointer (some t)))).run Tryz.prog w=.ok (.agg #[.pointer (some ⟨7,B,none⟩),.pointer (some ⟨w.heap.size,0,none⟩),.int .u64 150]) (w.alloc (.cells #[.pointer (some t)] B))
 tB : ∀ (a : Addr) (w : World), (ReflectliteValue.methodAny (ReflectliteValue.valueError "reflectlite.Value.Type" 0) (fun t _ _ _ => ReflectliteType.toType t) #[.agg #[.pointer (some ⟨7, B, none⟩), .pointer (some a), .int .u64 150]]).run Tryz.prog w = .ok (.iface 209 (.agg #[.pointer (some ⟨7, B, none⟩)])) w
 kB:∀(w:World),((ReflectliteType.abiMethod fun t=>(fun a:Nat=>Value.int IntKind.u8 (a:Int)) <$> Rtype.kind t) #[.pointer (some ⟨7,B,none⟩)]).run Tryz.prog w=.ok (.int .u8 22) w
 kA:∀(w:World),((ReflectliteType.abiMethod fun t=>(fun a:Nat=>Value.int IntKind.u8 (a:Int)) <$> Rtype.kind t) #[.pointer (some ⟨7,A,none⟩)]).run Tryz.prog w=.ok (.int .u8 25) w
 pB:∀(a:Addr) (w:World),(ReflectliteValue.parts (.agg #[.pointer (some ⟨7,B,none⟩),.pointer (some a),.int .u64 150])).run Tryz.prog w=.ok (some (B,a,150)) w
 eB:∀(w:World),(ReflectliteType.method ReflectliteType.elem #[.agg #[.pointer (some ⟨7,B,none⟩)]]).run Tryz.prog w=.ok (.iface 209 (.agg #[.pointer (some ⟨7,A,none⟩)])) w
 iA : ∀ (w : World), (ReflectliteType.relation "Implements" ReflectliteType.implements_ #[.agg #[.pointer (some ⟨7, A, none⟩)], .iface 209 (.agg #[.pointer (some ⟨7, 134, none⟩)])]).run Tryz.prog w = .ok (.bool true) w
 oA:∀(v:Value) (w:World),(ReflectliteType.typeOf #[.iface A v]).run Tryz.prog w=.ok (.iface 209 (.agg #[.pointer (some ⟨7,A,none⟩)])) w
 aA : ∀ (w : World), (ReflectliteType.relation "AssignableTo" ReflectliteType.assignableTo #[.agg #[.pointer (some ⟨7, A, none⟩)], .iface 209 (.agg #[.pointer (some ⟨7, A, none⟩)])]).run Tryz.prog w = .ok (.bool true) w
 vA:∀(n:Int) (w:World),(ReflectliteValue.unpack (.iface A (.agg #[.int .i64 n]))).run Tryz.prog w=.ok (.agg #[.pointer (some ⟨7,A,none⟩),.pointer (some ⟨w.heap.size,0,none⟩),.int .u64 153]) (w.alloc (.cells #[.int .i64 n] A))
 mB:∀(w:World),(Rtype.elem? B).run Tryz.prog w=.ok (some A) w
 mA:∀(p:Addr) (w:World),(ReflectliteValue.mk A p ReflectliteValue.flagAddr).run Tryz.prog w=.ok (.agg #[.pointer (some ⟨7,A,none⟩),.pointer (some p),.int .u64 409]) w
 qA:∀(a:Addr) (w:World),(ReflectliteValue.parts (.agg #[.pointer (some ⟨7,A,none⟩),.pointer (some a),.int .u64 409])).run Tryz.prog w=.ok (some (A,a,409)) w
 pA:∀(a:Addr) (w:World),(ReflectliteValue.parts (.agg #[.pointer (some ⟨7,A,none⟩),.pointer (some a),.int .u64 153])).run Tryz.prog w=.ok (some (A,a,153)) w
 dA:∀(w:World),(Rtype.directlyAssignable A A).run Tryz.prog w=.ok true w
 sA:∀(w:World),(sizeOf A).run Tryz.prog w=.ok 1 w
 nA:(Tryz.prog.info? A).map (·.size)=some 1
 uA:∃f,Tryz.prog.underlying A=some (.struct #[f])
 uB:Tryz.prog.underlying B=some (.pointer A)
theorem AsOk.isNil {A B:Nat} (K:AsOk A B) (a p:Addr) (W:World) (ha:W.cell? a=some (.pointer (some p))) :
  (ReflectliteValue.method (ReflectliteValue.valueError "reflectlite.Value.IsNil" 0) ReflectliteValue.isNil #[.agg #[.pointer (some ⟨7, B, none⟩), .pointer (some a), .int .u64 150]]).run Tryz.prog W = .ok (.bool false) W := by
 rw[As.rlm];simp only[kCf,K.pB,Result.andThen];simp[ReflectliteValue.isNil,loadVar,isAgg,underlying,K.uB,ha,Result.andThen]
theorem AsOk.elemV {A B:Nat} (K:AsOk A B) (a p:Addr) (W:World) (ha:W.cell? a=some (.pointer (some p))) :
  (ReflectliteValue.method (ReflectliteValue.valueError "reflectlite.Value.Elem" 0) ReflectliteValue.elem #[.agg #[.pointer (some ⟨7, B, none⟩), .pointer (some a), .int .u64 150]]).run Tryz.prog W
   = .ok (.agg #[.pointer (some ⟨7,A,none⟩),.pointer (some p),.int .u64 409]) W:=by
 rw[As.rlm];simp only[kCf,K.pB,Result.andThen];simp[ReflectliteValue.elem,loadVar,isAgg,underlying,K.uB,ha,Result.andThen,K.mB,K.mA]
theorem AsOk.set {A B:Nat} (K:AsOk A B) (ta:Nat) (b:Nat) (n:Int) (cs0:Array Value) (old:Value) (t0:TypeId) (W:World) (hb:W.heap[b]?=some (.cells #[.int .i64 n] A (0,0))) (ht:W.heap[ta]?=some (.cells #[old] A (0,0))) :
  (ReflectliteValue.set #[.agg #[.pointer (some ⟨7,A,none⟩),.pointer (some ⟨ta,0,none⟩),.int .u64 409],.agg #[.pointer (some ⟨7,A,none⟩),.pointer (some ⟨b,0,none⟩),.int .u64 153]]).run Tryz.prog W
   = .ok (.tuple #[]) (W.setCell ⟨ta,0,none⟩ (.int .i64 n)):=by
 rw[As.rls];obtain⟨fA,uA⟩:=K.uA;have hl:=kC1 (P:=Tryz.prog) W b A A #[.int .i64 n] (0,0) _ hb uA rfl K.nA;have c:=zA1 ht 0;have f:=zA2 ht 0;simp only[kCf,K.qA,K.pA,Result.andThen];simp[ReflectliteValue.flagAddr,hl,Result.andThen,K.dA,K.sA,storeVar,Value.cells,storeCells,Addr.add];rw[run_store Tryz.prog W _ _ _ kD9];have c':W.cell? ⟨ta,0,none⟩=some old:=c;simp[c',f]
theorem As.methodKind (h : Value) (w : World) : (Go.method 467 209 (.agg #[h]) "Kind").run Tryz.prog w = .ok (304, h) w := by kernel_rfl
theorem As.methodElem (h : Value) (w : World) : (Go.method 467 209 (.agg #[h]) "Elem").run Tryz.prog w = .ok (320, .agg #[h]) w := by kernel_rfl
theorem As.methodImplements (h : Value) (w : World) : (Go.method 467 209 (.agg #[h]) "Implements").run Tryz.prog w = .ok (321, .agg #[h]) w := by kernel_rfl
theorem As.methodAssignableTo (h : Value) (w : World) : (Go.method 467 209 (.agg #[h]) "AssignableTo").run Tryz.prog w = .ok (318, .agg #[h]) w := by kernel_rfl
theorem as_hitG {A B:Nat} (K:AsOk A B) (n:Int) (ta:Nat) (old:Value) (w:World) (hg:w.cell? ⟨0,0,none⟩=some (.iface 209 (.agg #[.pointer (some ⟨7,134,none⟩)]))) (ht:w.heap[ta]?=some (.cells #[old] A (0,0))) :
  Calls Tryz.prog 91 #[.iface A (.agg #[.int .i64 n]),.iface B (.pointer (some ⟨ta,0,none⟩))] w fun e w'=>e=.returned (.bool true)∧∃W,Below w.heap.size w W∧w'=W.setCell ⟨ta,0,none⟩ (.int .i64 n):=by
 have h129:=@kBn Tryz.prog 129 _ (fun args=>ReflectliteValue.unpack (args.getD 0 (.tuple #[]))) Tryz.func129 kD5 kD5 kD5 kD5
 have h130 := @kBn Tryz.prog 130 _ (ReflectliteValue.methodAny (ReflectliteValue.valueError "reflectlite.Value.Type" 0) (fun t _ _ _ => ReflectliteType.toType t)) Tryz.func130 kD5 kD5 kD5 kD5
 have h131 := @kBn Tryz.prog 131 _ (ReflectliteValue.method (ReflectliteValue.valueError "reflectlite.Value.IsNil" 0) ReflectliteValue.isNil) Tryz.func131 kD5 kD5 kD5 kD5
 have h304:=@kBn Tryz.prog 304 _ (ReflectliteType.abiMethod fun t=>do pure (.int .u8 (← Rtype.kind t))) Tryz.func304 kD5 kD5 kD5 kD5;have h320:=@kBn Tryz.prog 320 _ (ReflectliteType.method ReflectliteType.elem) Tryz.func320 kD5 kD5 kD5 kD5
 have h321 := @kBn Tryz.prog 321 _ (ReflectliteType.relation "Implements" ReflectliteType.implements_) Tryz.func321 kD5 kD5 kD5 kD5
 have h153:=@kBn Tryz.prog 153 _ ReflectliteType.typeOf Tryz.func153 kD5 kD5 kD5 kD5
 have h318 := @kBn Tryz.prog 318 _ (ReflectliteType.relation "AssignableTo" ReflectliteType.assignableTo) Tryz.func318 kD5 kD5 kD5 kD5
 have h154 := @kBn Tryz.prog 154 _ (ReflectliteValue.method (ReflectliteValue.valueError "reflectlite.Value.Elem" 0) ReflectliteValue.elem) Tryz.func154 kD5 kD5 kD5 kD5
 have h155:=@kBn Tryz.prog 155 _ ReflectliteValue.set Tryz.func155 kD5 kD5 kD5 kD5;have tO:=K.oA;have mA:=As.methodAssignableTo;have a25:=K.aA;have v25:=K.vA;have f6:=K.vB;have f7:=K.tB;have mK:=As.methodKind;have mE:=As.methodElem;have mI:=As.methodImplements;have k27:=K.kB;have k25:=K.kA;have e27:=K.eB;have i25:=K.iA;have htl:=zA5 ht;have hlt:0<w.heap.size:=kD4
 obtain⟨V,hV⟩:∃V:Obj,V=.cells #[.pointer (some ⟨7,B,none⟩),.pointer (some ⟨w.heap.size,0,none⟩),.int .u64 150] 183:=⟨_,rfl⟩;have n8:=K.isNil ⟨w.heap.size,0,none⟩ ⟨ta,0,none⟩ ((w.alloc (.cells #[.pointer (some ⟨ta,0,none⟩)] B)).alloc (.cells #[.pointer (some ⟨7,B,none⟩),.pointer (some ⟨w.heap.size,0,none⟩),.int .u64 150] 183)) kD6;have hg2:((w.alloc (.cells #[.pointer (some ⟨ta,0,none⟩)] B)).alloc (.cells #[.pointer (some ⟨7,B,none⟩),.pointer (some ⟨w.heap.size,0,none⟩),.int .u64 150] 183)).cell? ⟨0,0,none⟩=some (.iface 209 (.agg #[.pointer (some ⟨7,134,none⟩)])):=by
  rw[kBC _ _ ⟨0,0,none⟩ kD6,kBC _ _ ⟨0,0,none⟩ hlt];exact hg
 have el:=K.elemV ⟨w.heap.size,0,none⟩ ⟨ta,0,none⟩ (((w.alloc (.cells #[.pointer (some ⟨ta,0,none⟩)] B)).alloc (.cells #[.pointer (some ⟨7,B,none⟩),.pointer (some ⟨w.heap.size,0,none⟩),.int .u64 150] 183)).alloc (.cells #[.pointer (some ⟨7,B,none⟩),.pointer (some ⟨w.heap.size,0,none⟩),.int .u64 150] 183)) (by rw[kBC _ _ ⟨w.heap.size,0,none⟩ kD8];simp);have st:=K.set ta (w.heap.size+1+1+1) n #[] old 0 ((((w.alloc (.cells #[.pointer (some ⟨ta,0,none⟩)] B)).alloc (.cells #[.pointer (some ⟨7,B,none⟩),.pointer (some ⟨w.heap.size,0,none⟩),.int .u64 150] 183)).alloc (.cells #[.pointer (some ⟨7,B,none⟩),.pointer (some ⟨w.heap.size,0,none⟩),.int .u64 150] 183)).alloc (.cells #[.int .i64 n] A))
  (zAD _ _ _ kD6)
  ((kA4 _ _ _ kD8).trans ((kA4 _ _ _ kD8).trans ((kA4 _ _ _ kD8).trans ((kA4 _ _ _ htl).trans ht))))
 go_enter Tryz.func91,Tryz.ntmps91;go_wp2;refine wp_loop_rounds 1 ?_;rw[rounds_succ];go_wp2;go_ret;exact⟨rfl,_,((((kA3 _ w).alloc (kA2 _) _).alloc kD6 _).alloc kD8 _).alloc kD8 _,rfl⟩
theorem as_ok137:AsOk 137 139:=⟨fun _ _=>by kernel_rfl,fun _ _=>by kernel_rfl,fun _=>by kernel_rfl,fun _=>by kernel_rfl,fun _ _=>by kernel_rfl,fun _=>by kernel_rfl,fun _=>by kernel_rfl,fun _ _=>by kernel_rfl,fun _=>by kernel_rfl,fun _ _=>by kernel_rfl,fun _=>by kernel_rfl,fun _ _=>by kernel_rfl,fun _ _=>by kernel_rfl,fun _ _=>by kernel_rfl,fun _=>by kernel_rfl,fun _=>by kernel_rfl,kD5,⟨_,Tryz.underlying137⟩,Tryz.underlying139⟩
theorem as_ok159:AsOk 159 160:=⟨fun _ _=>by kernel_rfl,fun _ _=>by kernel_rfl,fun _=>by kernel_rfl,fun _=>by kernel_rfl,fun _ _=>by kernel_rfl,fun _=>by kernel_rfl,fun _=>by kernel_rfl,fun _ _=>by kernel_rfl,fun _=>by kernel_rfl,fun _ _=>by kernel_rfl,fun _=>by kernel_rfl,fun _ _=>by kernel_rfl,fun _ _=>by kernel_rfl,fun _ _=>by kernel_rfl,fun _=>by kernel_rfl,fun _=>by kernel_rfl,kD5,⟨_,Tryz.underlying159⟩,Tryz.underlying160⟩
theorem as_ok253:AsOk 253 254:=⟨fun _ _=>by kernel_rfl,fun _ _=>by kernel_rfl,fun _=>by kernel_rfl,fun _=>by kernel_rfl,fun _ _=>by kernel_rfl,fun _=>by kernel_rfl,fun _=>by kernel_rfl,fun _ _=>by kernel_rfl,fun _=>by kernel_rfl,fun _ _=>by kernel_rfl,fun _=>by kernel_rfl,fun _ _=>by kernel_rfl,fun _ _=>by kernel_rfl,fun _ _=>by kernel_rfl,fun _=>by kernel_rfl,fun _=>by kernel_rfl,kD5,⟨_,Tryz.underlying253⟩,Tryz.underlying254⟩
theorem as_ok300:AsOk 300 301:=⟨fun _ _=>by kernel_rfl,fun _ _=>by kernel_rfl,fun _=>by kernel_rfl,fun _=>by kernel_rfl,fun _ _=>by kernel_rfl,fun _=>by kernel_rfl,fun _=>by kernel_rfl,fun _ _=>by kernel_rfl,fun _=>by kernel_rfl,fun _ _=>by kernel_rfl,fun _=>by kernel_rfl,fun _ _=>by kernel_rfl,fun _ _=>by kernel_rfl,fun _ _=>by kernel_rfl,fun _=>by kernel_rfl,fun _=>by kernel_rfl,kD5,⟨_,Tryz.underlying300⟩,Tryz.underlying301⟩
end Go.Proofs.YtjaobihcdkjmbaaGreatDoor
end
section
namespace Go.Proofs.YtjaobihcdkjmbaaGreatDoor
open Go.RowKit Go.Proofs.YtjaobihcdkjmbaaGreatDoorW.PrintWords Go.Proofs.YtjaobihcdkjmbaaGreatDoor.PReadTokens
def negB (s:ByteArray):Bool:=match s.data.toList with | []=>false | c :: _=>c==45
def zBr (s:ByteArray):ByteArray:=if negB s then s.extract 1 s.size else s
def digC (c:UInt8):Bool:=decide (48≤c.toNat)&&decide (c.toNat≤57)
def zD3 (s:ByteArray):Bool:=match (zBr s).data.toList with | []=>false | c :: _=>c==48
def zCp (s:ByteArray):Bool:=decide (0<(zBr s).size) && !(zD3 s&&(decide (1<(zBr s).size)||decide (1<s.size)))&&(zBr s).data.toList.all digC
theorem prefix_neg (s:ByteArray):stringslite_HasPrefix.f s ⟨#[45]⟩=some (negB s):=by
 unfold stringslite_HasPrefix.f negB;have s2:(⟨#[45]⟩:ByteArray).size=1:=rfl;rw[s2]
 cases hl:s.data.toList with
 | nil =>
  have hz:s.size=0:=by show s.data.toList.length=0;rw[hl];rfl
  simp[hz]
 | cons c r =>
  have hz:s.size=r.length+1:=by show s.data.toList.length=_;rw[hl];rfl
  have he:(s.extract 0 1).toList=[c]:=by
   rw[kAV,kBj,hl];rfl
  have h45:(⟨#[45]⟩:ByteArray).toList=[45]:=by rw[kAV]
  simp only[Int.toNat_natCast];rw[kAa kD4,kAa kD4,kAa kD4,he,h45];simp
theorem trim_f (s:ByteArray):strings_TrimPrefix.f s ⟨#[45]⟩=some (zBr s):=by
 unfold strings_TrimPrefix.f stringslite_TrimPrefix.f zBr;rw[prefix_neg];have s2:(⟨#[45]⟩:ByteArray).size=1:=rfl
 cases hn:negB s
 ·simp
 ·have h1:1≤s.size:=by
   unfold negB at hn
   cases hl:s.data.toList with
   | nil=>rw[hl] at hn;cases hn
   | cons c r=>show 1≤s.data.toList.length;rw[hl];simp
  simp[s2];omega
theorem zEU (s:ByteArray) (w:World):Calls Tryz.prog 124 #[.string s,.string ⟨#[45]⟩] w fun e w'=>e=.returned (.string (zBr s))∧∃n,w'=w.drewN n :=
 (strings_TrimPrefix.calls s ⟨#[45]⟩ (zBr s) w (trim_f s)).mono fun _ _ ⟨a,b⟩=>⟨a,b.out⟩
theorem zDz (s:ByteArray):(zBr s).size≤s.size:=by
 unfold zBr;split
 ·simp
 ·exact kA2 _
theorem rune_digC (s:ByteArray) (pos:Nat) (h:pos<s.size) :
  digC (s[pos]'h)=(decide ((48:Int)≤((Utf8.decode s pos).1:Nat))&&decide ((((Utf8.decode s pos).1:Nat):Int)≤57))∧(digC (s[pos]'h)=true→(Utf8.decode s pos).2=1):=by
 by_cases ha:(s[pos]'h).toNat<128
 ·rw[decode_ascii s pos h ha];refine⟨?_,fun _=>rfl⟩;unfold digC;simp only;congr 1<;>exact decide_eq_decide.2 kD4
 ·have hh:=(decode_high s pos h kD4).1;have e:digC (s[pos]'h)=false:=by
   unfold digC;rw[kAT];exact .inr (kAc kD4)
  rw[e];refine⟨?_,fun h=>by cases h⟩;symm;rw[kAT];exact .inr (kAc kD4)
theorem all_drop (s:ByteArray) (pos:Nat) (h:pos<s.size):(s.data.toList.drop pos).all digC=(digC (s[pos]'h)&&(s.data.toList.drop (pos+1)).all digC):=by
 rw[kAp (show pos<s.data.toList.length from h)];rfl
theorem zF7 (s:ByteArray) (hs:s.size≤9223372036854775807) (w:World):Calls Tryz.prog 256 #[.string s] w fun e w'=>e=.returned (.bool (zCp s))∧Below w.heap.size w w':=by
 have htp:=kA1 (fun w=>zEU s w);have hts:=zDz s;obtain⟨t,ht⟩:∃t,t=zBr s:=⟨_,rfl⟩;have hz:zD3 s=match t.data.toList with | []=>false | c :: _=>c==48:=by rw[ht];rfl
 have hform:zCp s=(decide (0<t.size) && !(zD3 s&&(decide (1<t.size)||decide (1<s.size)))&&t.data.toList.all digC):=by rw[ht];rfl
 rw[← ht] at htp hts;clear ht;generalize zCp s=R at *;by_cases h0:t.size=0
 ·have hemp:t.toList=[]:=str_empty h0;have hR:R=false:=by rw[hform,h0];rfl
  subst hR;clear hform hz h0;go_enter Tryz.func256,Tryz.ntmps256;go_wp2_with (go_at_call 124;refine (htp.out _).mono ?_;rintro e w1 ⟨rfl,k,rfl⟩);go_ret;exact⟨rfl,zA3 (kA3 _ w) k⟩
 ·have hp:0<t.size:=kD4
  have hemp:t.toList.isEmpty=false:=str_some hp;have hzh:zD3 s=decide (((t[0]'hp).toNat:Int)=48):=by
   rw[hz]
   cases hl:t.data.toList with
   | nil=>exfalso;have:t.size=t.data.toList.length:=rfl;rw[hl,List.length_nil] at this;omega
   | cons c r =>
    have e:t[0]'hp=c:=by
     show t.data.toList[0]'hp=c;simp[hl]
    rw[e];simp only;rw[kCA];simp only[kAA,kAU];rw[← kCY];constructor
    ·intro h;rw[h];rfl
    ·intro h;have:c.toNat=48:=kD4
     rw[this];rfl
  rw[kA8 hp,kCC,hzh] at hform;clear hz hzh h0;by_cases hbad:((t[0]'hp).toNat:Int)=48∧(1<t.size∨1<s.size)
  ·obtain⟨hb48,hbig⟩:=hbad;have q48:(((t[0]'hp).toNat:Int)==48)=true:=kAA.2 hb48;have hR:R=false:=by
    rw[hform,kA8 hb48,kCC];rcases hbig with h | h
    ·rw[kA8 h];rfl
    ·rw[kA8 h,Bool.or_true];rfl
   subst hR;clear hform hb48;by_cases hb1:1<t.size
   ·have e1:decide (1<(t.size:Int))=true:=kA8 kD4;go_enter Tryz.func256,Tryz.ntmps256;go_wp2_with (go_at_call 124;refine (htp.out _).mono ?_;rintro e w1 ⟨rfl,k,rfl⟩);go_ret;exact⟨rfl,zA3 (kA3 _ w) k⟩
   ·have e1:decide (1<(t.size:Int))=false:=kAc kD4;have e2:decide (1<(s.size:Int))=true:=kA8 kD4;go_enter Tryz.func256,Tryz.ntmps256;go_wp2_with (go_at_call 124;refine (htp.out _).mono ?_;rintro e w1 ⟨rfl,k,rfl⟩);go_ret;exact⟨rfl,zA3 (kA3 _ w) k⟩
  ·have hR:R=t.data.toList.all digC:=by
    rw[hform];by_cases h48:((t[0]'hp).toNat:Int)=48
    ·have hb:¬(1<t.size∨1<s.size):=fun h=>hbad ⟨h48,h⟩
     rw[kAc (show ¬1<t.size by omega),kAc (show ¬1<s.size by omega)];simp
    ·rw[kAc h48];rfl
   have hc:((((t[0]'hp).toNat:Int)==48)=true∧decide (1<(t.size:Int))=false∧decide (1<(s.size:Int))=false)∨((((t[0]'hp).toNat:Int)==48)=false):=by
    by_cases h48:((t[0]'hp).toNat:Int)=48
    ·have hb:¬(1<t.size∨1<s.size):=fun h=>hbad ⟨h48,h⟩
     exact .inl ⟨kAA.2 h48,kAc kD4,kAc kD4⟩
    ·exact .inr (kAd.2 h48)
   have HR:=kA1 hR;clear hform hR hbad;rcases hc with⟨q48,e1,e2⟩ | q48
   all_goals
    go_enter Tryz.func256,Tryz.ntmps256;go_wp2_with (go_at_call 124;refine (htp.out _).mono ?_;rintro e w1 ⟨rfl,k,rfl⟩);have hb1:Below w.heap.size w (w.drewN k):=zA3 (kA3 _ w) k;have hse:(w.drewN k).heap.size=w.heap.size:=by rw[World.heap_drewN]
    generalize w.drewN k=w1 at *;have hit:IterAt w1 t 0 (w1.iter t 0):=⟨(kA3 _ _).alloc (kA2 _) _,World.iter_heap _ _ _⟩;replace hse:=kA1 hse;rw[← hse.out];go_loopg [] t.size (fun k wr=>∃pos,pos+k=t.size∧IterAt w1 t pos wr∧Hid (R=(t.data.toList.drop pos).all digC))
    case atStart=>exact⟨0,kD4,hit,kA1 (by rw[HR.out,kBZ])⟩
    case round =>
     clear hit q48;obtain⟨pos,hpos,hat,Hn⟩:=hrel;by_cases hq:pos<t.size
     ·have hnx:=fun ty=>zDG (P:=Tryz.prog) wr w1.heap.size t pos ty hat.iter hq
      have hin:=hat.next (pos+(Utf8.decode t pos).2)
      have hdg:=rune_digC t pos hq;have had:=all_drop t pos hq;obtain⟨d,hd⟩:∃d,d=digC t[pos]:=⟨_,rfl⟩;rw[← hd] at hdg had;clear hd
      cases d
      ·have Hres:Hid (R=false):=kA1 (by rw[Hn.out,had];rfl);have hd1:=hdg.1;clear hdg had hat;have hbw:=hin.below_;generalize ((Utf8.decode t pos).1:Int)=c at *;generalize (Utf8.decode t pos).2=wd at *;by_cases hlo:c<48
       ·have c1:decide (c<48)=true:=kA8 hlo;clear hd1;go_wp2;go_ret;exact⟨by rw[Hres.out];rfl,hb1.trans (hbw.mono hb1.size)⟩
       ·have c1:decide (c<48)=false:=kAc hlo;have c2:decide (57<c)=true:=by
         rw[kA8 (show (48:Int)≤c by omega),kCC] at hd1;have:=kCe hd1.symm;exact kA8 kD4
        clear hd1;go_wp2;go_ret;exact⟨by rw[Hres.out];rfl,hb1.trans (hbw.mono hb1.size)⟩
      ·have Hn':Hid (R=(t.data.toList.drop (pos+1)).all digC):=kA1 (by rw[Hn.out,had];rfl);have hd1:=hdg.1;have hwd:=hdg.2 rfl;rw[hwd] at hin hnx;clear hdg had hat hwd;generalize ((Utf8.decode t pos).1:Int)=c at *;rw[eq_comm,kAo] at hd1;have l1:=kAn hd1.1;have l2:=kAn hd1.2;have c1:decide (c<48)=false:=kAc kD4;have c2:decide (57<c)=false:=kAc kD4;clear hd1;go_wp2;go_roundg (gk-1)
       case measure=>omega
       case rel=>exact⟨pos+1,kD4,hin,Hn'⟩
     ·have hnx:=fun ty=>zDm (P:=Tryz.prog) wr w1.heap.size t pos ty hat.iter hq
      have hbw:=hat.below_;have Hres:Hid (R=true):=kA1 (by
       rw[Hn.out,kBq (show t.data.toList.length≤pos from kCy.1 hq)];rfl)
      clear hat;go_wp2;go_ret;exact⟨by rw[Hres.out];rfl,hb1.trans (hbw.mono hb1.size)⟩
end Go.Proofs.YtjaobihcdkjmbaaGreatDoor
end
